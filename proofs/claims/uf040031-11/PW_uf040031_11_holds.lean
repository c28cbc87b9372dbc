import PyProof.Rows.All
import Wide.All
import Open.Line
import Wide.FinOn
import PyProof.ExcClsAt2
import PyProof.TableCode
import PyProof.CompFree
import PyProof.RaisesMany
import PyProof.Calls
import PyProof.Cells
import PyProof.DictList
import PyProof.DictKinds
import PyProof.AutoIntOps
import PyProof.PureInt
import PyProof.StrBlock
import PyProof.TupleOps
import PyProof.SliceStr2
import PyProof.SliceList
import PyProof.IsRules
import PyProof.NoPylong
import PyProof.AutoIntOpsIf
import PyProof.Rows.TupSub
import PyProof.Rows.StrTemp
import PyProof.Rows.Nodes
import PyProof.TupleIter
import PyProof.Rows.SeqMore
import PyProof.ListIndexNeg
import PyProof.Rows.TupMore
import PyProof.RulesAssignMore
import PyProof.ForAny
import PyProof.WalksPairs
import PyProof.WalksMore
import PyProof.CompMap
import PyProof.CompUse
import PyProof.StrWalks
import PyProof.RangeFor
import PyProof.CallRoads
import PyProof.Methods
import PyProof.WalkInts
import PyProof.IsiPairs
import PyProof.IsiHeapPairs
import PyProof.Rows.StrJoin2
import PyProof.DefCall
import PyProof.Rows.PlainNoArg
import PyProof.Rows.Top
import Open.Row
import Wide.BridgeG
import PyProof.Rows.RuleC_bool
import Wide.Well
import Wide.Ends
import PyProof.ConsumeWalk
import PyProof.SumWalkG
import PyProof.ListOps
import PyProof.ListCopy
import PyProof.TupleOfSeq
import PyProof.TupleCall
import PyProof.EqLayable
import PyProof.P3In
import PyProof.PlainList
import PyProof.FactsAll.list_0
import PyProof.FactsAll.list_3
import PyProof.ListIndex
import PyProof.Dict
import PyProof.RulesDelMore
import PyProof.DictRoads
import PyProof.DictStraight
import PyProof.IsiNone
import PyProof.FactsAll.list_4
import PyProof.AutoListH
import PyProof.FactsAll.dict_2
import PyProof.FactsAll.subtypes_5
import PyProof.Rows.AttrNodeAny
import PyProof.ExcClass3
import PyProof.ExcBaseAll.ValueError
import PyProof.ExcArgs
import PyProof.IsInstanceT
import PyProof.RulesAs
import PyProof.RulesDel
import PyProof.IsiTuple
import PyProof.Rows.SortRuns
import PyProof.Rows.SortShell
import PyProof.Rows.SortWalk
import KE.KSortTup
import PyProof.Rows.SortKeyStr
import PyProof.Rows.SortStr
import PyProof.FactsAll.set
import PyProof.DictIter
import PyProof.WalksS
import PyProof.MakeMany
import PyProof.SetKind
import PyProof.Rows.SetFrom
import PyProof.SetNew
import PyProof.Walks
import PyProof.CollectWalk
import PyProof.DictWalks
import PyProof.DictTruth
import PyProof.MeetsDictList
import PyProof.FactsAll.dict_3
import PyProof.DictDisplay
import PyProof.DictTable
import PyProof.EqAt
import PyProof.EqKinds
import PyProof.FactsAll.tuple_2
import PyProof.TupleKey
import PyProof.Rows.PlainEq
import PyProof.Conv_int_bool
import Open.Head
import PySem.Challenge.RW_uf040031_11
set_option tactic.hygienic false
set_option linter.all false
set_option Elab.async false
set_option maxRecDepth 100000
set_option maxHeartbeats 8000000
set_option compiler.extract_closed false
section
open PySem PySem.W PyProof.Rows
namespace Mine
noncomputable def VE0:List Value:=[.type "ValueError",.type "Exception",.type "BaseException",.type "object"]
noncomputable def VN0:String:="ValueError.__new__"
noncomputable def hush0:List Str:=["__init__","__getattribute__","__getattr__","__class__"]
noncomputable def zk5 (h:Heap) (name:Str):Bool:=(h.clsAt mainGlobals name).any fun z=>hush0.all fun n=>(h.nsMap z.2.2.ns n).isNone
noncomputable def z18 (h:Heap) (x:Str):Addr:=match h.nsMap mainGlobals x with
 | some (.ref a)=>a
 | _=>0
noncomputable def errN0:List Str:=["BadLot","BadLine","Late","Full","NoNumber","BadDay","BadDealing"]
noncomputable def zvy (l:List Nat):Bool:=l.rec true fun a r ih=>r.all (fun b=>b != a) && ih
noncomputable def errChk0 (h:Heap):Bool:=h.isNs mainGlobals && (h.ownExcOk "LotError" [] VE0 VN0 && zk5 h "LotError") && errN0.all (fun x=>h.ownExcOk x ["LotError"] VE0 VN0 && zk5 h x) && zvy ((("LotError":Str)::errN0).map (z18 h))
noncomputable def errHook0:Hook:=⟨Bool,fun s=>errChk0 s.heap,fun z1=>true,fun z1 h=>∃ h0,errChk0 h0=true/\∀ b o,h0.get? b=some o->h.get? b=some o,fun w s e=>⟨s.heap,e,fun z1 z2 q=>q⟩,fun w h h' x k=>x.elim fun h0 q=>⟨h0,q.1,fun b o r=>k b o (q.2 b o r)⟩⟩
end Mine
end
section
open PySem PySem.W PyProof.Rows
namespace Mine
noncomputable def stA (p:Program) (i:Nat):Stmt:=p.main.body.getD i (.Pass ⟨0,0,0,0⟩)
noncomputable abbrev pw:=Challenge.pw_uf040031_11
noncomputable def vw:Program:={ pw with main:={ pw.main with body:=[stA pw 1,stA pw 2,stA pw 3,stA pw 4,stA pw 5,stA pw 6,stA pw 7,stA pw 8,stA pw 10,stA pw 11,stA pw 12,stA pw 13,stA pw 14,stA pw 15,stA pw 16,stA pw 17,stA pw 18,stA pw 19,stA pw 20,stA pw 21,stA pw 22,stA pw 24,stA pw 26,stA pw 28,stA pw 29,stA pw 30,stA pw 31,stA pw 32,stA pw 33,stA pw 34,stA pw 35,stA pw 36,stA pw 37,stA pw 38,stA pw 39,stA pw 40,stA pw 41,stA pw 42,stA pw 43] } }
noncomputable abbrev rr:RowW:=OpenRow.toRowW Challenge.rw_uf040031_11.row
noncomputable abbrev xt:Shared->Bool:=fun s=>xlAt vw [] s && recOk (RowW.records rr) s
theorem left:LeftO Challenge.rw_uf040031_11.row.prog vw [] xt (Hook.obs Mine.errHook0) (Hook.val Mine.errHook0) 9000:=by
 intro w
 kernel_rfl
end Mine
end
section
set_option genSizeOf false
set_option genInjectivity false
namespace Mine.Ar
noncomputable abbrev Lin:=List Int × Int
noncomputable def dot (a:List Int):List Int->Int:=a.rec (fun z1=>0) fun a z1 ih ρ=>a * ρ.headD 0+ih ρ.tail
noncomputable def z7m (a:List Int):List Int->List Int:=a.rec (fun b=>b) fun a z1 ih b=>(a+b.headD 0)::ih b.tail
noncomputable def ev (ρ:List Int) (f:Lin):Int:=dot f.1 ρ+f.2
noncomputable def add (f g:Lin):Lin:=(z7m f.1 g.1,f.2+g.2)
noncomputable def z4c (k:Int) (f:Lin):Lin:=(f.1.map (k * ·),k * f.2)
theorem z8a (a b c d:Int):a+b+(c+d)=a+c+(b+d):=by rw [Int.add_assoc,Int.add_assoc,Int.add_left_comm b]
theorem z0f (b ρ:List Int):dot b ρ=b.headD 0 * ρ.headD 0+dot b.tail ρ.tail:=by
 cases b with
 | nil=>exact ((Int.add_zero _).trans (Int.zero_mul _)).symm
 | cons _ _=>rfl
theorem z11 (a:List Int):∀ b ρ:List Int,dot (z7m a b) ρ=dot a ρ+dot b ρ:=by
 induction a with
 | nil=>exact fun b ρ=>(Int.zero_add _).symm
 | cons a as ih=>
  intro b ρ
  rw [z0f b ρ]
  show (a+b.headD 0) * _+dot (z7m as b.tail) ρ.tail=a * _+dot as ρ.tail+_
  rw [ih,Int.add_mul,z8a]
theorem zym (k:Int) (a:List Int):∀ ρ:List Int,dot (a.map (k * ·)) ρ=k * dot a ρ:=by
 induction a with
 | nil=>exact fun z1=>(Int.mul_zero k).symm
 | cons a as ih=>
  intro ρ
  show k * a * _+dot (as.map (k * ·)) ρ.tail=k * (a * _+dot as ρ.tail)
  rw [ih,Int.mul_add,Int.mul_assoc]
theorem zvo (ρ:List Int) (f g:Lin):ev ρ (add f g)=ev ρ f+ev ρ g:=by
 show dot (z7m _ _) ρ+_=_
 rw [z11];exact z8a ..
theorem zk8 (ρ:List Int) (k:Int) (f:Lin):ev ρ (z4c k f)=k * ev ρ f:=by
 show dot (List.map _ _) ρ+k * f.2=k * (dot f.1 ρ+f.2)
 rw [zym,Int.mul_add]
noncomputable def sub (f g:Lin):Lin:=add f (z4c (-1) g)
theorem zj6 (ρ:List Int) (f g:Lin):ev ρ (sub f g)=ev ρ f - ev ρ g:=by
 show ev ρ (add _ _)=_
 rw [zvo,zk8,Int.neg_mul,Int.one_mul];rfl
noncomputable def hd (f:Lin):Int:=f.1.headD 0
noncomputable def tl (f:Lin):Lin:=(f.1.tail,f.2)
theorem zou (x:Int) (ρ:List Int) (f:Lin):ev (x::ρ) f=hd f * x+ev ρ (tl f):=by
 show dot _ _+_=_
 rw [z0f];exact Int.add_assoc ..
noncomputable def elim (cs:List Lin):List Lin:=
 ((cs.filter fun f=>hd f == 0).map tl)++(cs.filter fun f=>decide (0<hd f)).flatMap fun p=>(cs.filter fun f=>decide (hd f<0)).map fun q=>add (z4c (-hd q) (tl p)) (z4c (hd p) (tl q))
noncomputable def fm (n:Nat):List Lin->Bool:=n.rec (fun cs=>cs.any fun f=>decide (f.2<0)) fun z1 ih cs=>ih (elim cs)
def Sat (ρ:List Int) (cs:List Lin):Prop:=∀ f∈cs,0<=ev ρ f
theorem Sat.app {ρ:List Int} {a b:List Lin} (ha:Sat ρ a) (hb:Sat ρ b):Sat ρ (a++b):=fun f hf=>(List.mem_append.mp hf).elim (ha f) (hb f)
theorem Sat.con {ρ:List Int} {f:Lin} {b:List Lin} (ha:0<=ev ρ f) (hb:Sat ρ b):Sat ρ (f::b):=fun g hg=>(List.mem_cons.mp hg).elim (fun e=>e ▸ ha) (hb g)
theorem Sat.nil {ρ:List Int}:Sat ρ []:=fun z1 h=>nomatch h
theorem pq (a b x u v:Int) (h1:0<=-b * (a * x+u)) (h2:0<=a * (b * x+v)):0<=-b * u+a * v:=by
 have e:-b * (a * x+u)+a * (b * x+v)=-b * u+a * v:=by
  rw [Int.mul_add,Int.mul_add,z8a,Int.neg_mul b,← Int.mul_assoc b,← Int.mul_assoc a,Int.mul_comm b,Int.add_left_neg,Int.zero_add]
 exact e ▸ Int.add_nonneg h1 h2
theorem zyk {x:Int} {ρ:List Int} {cs:List Lin} (h:Sat (x::ρ) cs):Sat ρ (elim cs):=fun f hf=>by
 rcases List.mem_append.mp hf with hf | hf
 ·obtain ⟨g,hg,rfl⟩:=List.mem_map.mp hf
  obtain ⟨h1,h2⟩:=List.mem_filter.mp hg
  have:=h g h1
  rwa [zou,eq_of_beq h2,Int.zero_mul,Int.zero_add] at this
 ·obtain ⟨p,hp,hf⟩:=List.mem_flatMap.mp hf
  obtain ⟨q,hq,rfl⟩:=List.mem_map.mp hf
  obtain ⟨p1,p2⟩:=List.mem_filter.mp hp
  obtain ⟨q1,q2⟩:=List.mem_filter.mp hq
  rw [zvo,zk8,zk8]
  exact pq _ _ x _ _ (Int.mul_nonneg (Int.neg_nonneg_of_nonpos (Int.le_of_lt (of_decide_eq_true q2))) (zou .. ▸ h p p1)) (Int.mul_nonneg (Int.le_of_lt (of_decide_eq_true p2)) (zou .. ▸ h q q1))
theorem z1z (a:List Int):dot a []=0:=by
 induction a with
 | nil=>rfl
 | cons a as ih=>exact (congrArg (_+·) ih).trans ((Int.add_zero _).trans (Int.mul_zero _))
theorem zye (ρ:List Int):∀ cs:List Lin,fm ρ.length cs=true->¬ Sat ρ cs:=by
 induction ρ with
 | nil=>
  intro cs h hs
  obtain ⟨f,hf,h2⟩:=List.any_eq_true.mp h
  have:=hs f hf
  rw [ev,z1z,Int.zero_add] at this
  exact Int.not_le.mpr (of_decide_eq_true h2) this
 | cons x ρ ih=>exact fun cs h hs=>ih _ h (zyk hs)
inductive NT where
 | v (i:Nat) | k (n:Nat) | a (x y:NT) | s (x y:NT) | m (n:Nat) (x:NT) | c (x:NT) | g (x:NT)
noncomputable abbrev nth {α:Type} (d:α) (ρ:List α):Nat->α:=ρ.rec (fun z1=>d) fun x z1 ih i=>i.rec x fun i z1=>ih i
noncomputable abbrev z4k (ρ:List Nat):List Int:=ρ.map Int.ofNat
noncomputable abbrev env (τ:List Int) (ρ:List Nat):List Int:=τ++z4k ρ
noncomputable abbrev NT.den (ρ:List Nat) (t:NT):Nat:=t.rec (fun i=>nth 0 ρ i) (fun n=>n) (fun z1 z2 x y=>x+y) (fun z1 z2 x y=>x - y) (fun n z1 x=>n * x) (fun z1 x=>x) (fun z1 x=>x)
noncomputable abbrev NT.iden (τ:List Int) (ρ:List Nat) (t:NT):Int:=t.rec (fun i=>nth 0 (env τ ρ) i) (fun n=>(OfNat.ofNat n:Int)) (fun z1 z2 x y=>x+y) (fun z1 z2 x y=>x - y) (fun n z1 x=>(OfNat.ofNat n:Int) * x) (fun x z1=>(x.den ρ:Nat)) (fun z1 x=>-x)
noncomputable def z34 (i:Nat):List Int:=i.rec [1] fun z1 ih=>0::ih
noncomputable abbrev Cs:=List (List Lin × Lin)
noncomputable def scl (k:Int) (x:Cs):Cs:=x.map fun p=>(p.1,z4c k p.2)
noncomputable def pls (x y:Cs):Cs:=x.flatMap fun p=>y.map fun q=>(p.1++q.1,add p.2 q.2)
noncomputable def mns (x y:Cs):Cs:=x.flatMap fun p=>y.flatMap fun q=>[(sub p.2 q.2::(p.1++q.1),sub p.2 q.2),(sub q.2 p.2::(p.1++q.1),([],0))]
noncomputable def NT.lin (o:Nat) (t:NT):Cs:=t.rec (fun i=>[([],(z34 (o+i),0))]) (fun n=>[([],([],n))]) (fun z1 z2 x y=>pls x y) (fun z1 z2 x y=>mns x y) (fun n z1 x=>scl n x) (fun z1 x=>x) (fun z1 x=>x)
noncomputable def NT.ilin (o:Nat) (t:NT):Cs:=t.rec (fun i=>[([],(z34 i,0))]) (fun n=>[([],([],n))]) (fun z1 z2 x y=>pls x y) (fun z1 z2 x y=>pls x (scl (-1) y)) (fun n z1 x=>scl n x) (fun x z1=>x.lin o) (fun z1 x=>scl (-1) x)
def Fits (E:List Int) (l:Cs) (v:Int):Prop:=∃ p∈l,Sat E p.1/\ev E p.2=v
theorem zlc (i:Nat):∀ ρ:List Int,dot (z34 i) ρ=nth 0 ρ i:=by
 induction i with
 | zero=>intro ρ;cases ρ <;> exact (Int.add_zero _).trans (Int.one_mul _)
 | succ i ih=>
  intro ρ
  show 0 * _+dot (z34 i) ρ.tail=_
  rw [Int.zero_mul,Int.zero_add,ih]
  cases ρ <;> rfl
theorem zul (ρ:List Nat):∀ i,nth 0 (z4k ρ) i=(nth 0 ρ i:Nat):=by
 induction ρ with
 | nil=>exact fun z1=>rfl
 | cons x ρ ih=>exact fun i=>by cases i with | zero=>rfl | succ i=>exact ih i
theorem zmf (ρ:List Nat) (i:Nat) (τ:List Int):nth 0 (env τ ρ) (τ.length+i)=(nth 0 ρ i:Nat):=by
 induction τ with
 | nil=>rw [List.length_nil,Nat.zero_add];exact zul ρ i
 | cons x τ ih=>rw [List.length_cons,Nat.succ_add];exact ih
section
variable {E:List Int} {x y:Cs} {a b:Int} (hx:Fits E x a)
include hx
theorem Fits.scl (k:Int):Fits E (scl k x) (k * a):=by
 obtain ⟨p,hp,p1,p2⟩:=hx
 exact ⟨_,List.mem_map.mpr ⟨p,hp,rfl⟩,p1,p2 ▸ zk8 ..⟩
theorem Fits.neg:Fits E (Ar.scl (-1) x) (-a):=by
 have:=hx.scl (-1)
 rwa [Int.neg_mul,Int.one_mul] at this
variable (hy:Fits E y b)
include hy
theorem Fits.pls:Fits E (pls x y) (a+b):=by
 obtain ⟨p,hp,p1,p2⟩:=hx
 obtain ⟨q,hq,q1,q2⟩:=hy
 exact ⟨_,List.mem_flatMap.mpr ⟨p,hp,List.mem_map.mpr ⟨q,hq,rfl⟩⟩,p1.app q1,p2 ▸ q2 ▸ zvo ..⟩
end
theorem Fits.one {E:List Int} {f:Lin} {a:Int} (h:ev E f=a):Fits E [([],f)] a:=⟨_,.head _,.nil,h⟩
theorem Fits.mns {E:List Int} {x y:Cs} {a b:Nat} (hx:Fits E x a) (hy:Fits E y b):Fits E (mns x y) (a - b:Nat):=by
 obtain ⟨p,hp,p1,p2⟩:=hx
 obtain ⟨q,hq,q1,q2⟩:=hy
 rcases Nat.le_total b a with h | h
 ·have e:=Int.ofNat_sub h
  exact ⟨_,List.mem_flatMap.mpr ⟨p,hp,List.mem_flatMap.mpr ⟨q,hq,.head _⟩⟩,(p1.app q1).con (by rw [zj6,p2,q2,← e];exact Int.natCast_nonneg _),by rw [zj6,p2,q2,e]⟩
 ·exact ⟨_,List.mem_flatMap.mpr ⟨p,hp,List.mem_flatMap.mpr ⟨q,hq,.tail _ (.head _)⟩⟩,(p1.app q1).con (by rw [zj6,p2,q2];exact Int.sub_nonneg_of_le (Int.ofNat_le.mpr h)),by rw [Nat.sub_eq_zero_of_le h];rfl⟩
theorem zhw (τ:List Int) (ρ:List Nat) (t:NT):Fits (env τ ρ) (t.lin τ.length) (t.den ρ:Nat):=by
 induction t with
 | v i=>exact .one ((Int.add_zero _).trans ((zlc _ _).trans (zmf ρ i τ)))
 | k n=>exact .one (Int.zero_add _)
 | a x y hx hy=>exact hx.pls hy
 | s x y hx hy=>exact hx.mns hy
 | m n x hx=>exact hx.scl n
 | c x hx=>exact hx
 | g x hx=>exact hx
theorem zfx (τ:List Int) (ρ:List Nat) (t:NT):Fits (env τ ρ) (t.ilin τ.length) (t.iden τ ρ):=by
 induction t with
 | v i=>exact .one ((Int.add_zero _).trans (zlc _ _))
 | k n=>exact .one (Int.zero_add _)
 | a x y hx hy=>exact hx.pls hy
 | s x y hx hy=>exact hx.pls hy.neg
 | m n x hx=>exact hx.scl n
 | c x hx=>exact zhw τ ρ x
 | g x hx=>exact hx.neg
inductive NF where
 | le (x y:NT) | lt (x y:NT) | eq (x y:NT) | ile (x y:NT) | ilt (x y:NT) | ieq (x y:NT) | no (f:NF) | an (f g:NF)
noncomputable abbrev NF.den (τ:List Int) (ρ:List Nat) (f:NF):Prop:=
 f.rec (fun x y=>x.den ρ<=y.den ρ) (fun x y=>x.den ρ<y.den ρ) (fun x y=>x.den ρ=y.den ρ) (fun x y=>x.iden τ ρ<=y.iden τ ρ) (fun x y=>x.iden τ ρ<y.iden τ ρ) (fun x y=>x.iden τ ρ=y.iden τ ρ) (fun z1 p=>¬ p) (fun z1 z2 p q=>p/\q)
noncomputable def two (x y:Cs) (g:Lin->Lin->List (List Lin)):List (List Lin):=x.flatMap fun p=>y.flatMap fun q=>(g p.2 q.2).map fun c=>c++(p.1++q.1)
noncomputable def cle (p q:Lin):List (List Lin):=[[sub q p]]
noncomputable def clt (p q:Lin):List (List Lin):=[[sub (sub q p) ([],1)]]
noncomputable def ceq (p q:Lin):List (List Lin):=[[sub q p,sub p q]]
noncomputable def cne (p q:Lin):List (List Lin):=clt p q++clt q p
noncomputable abbrev Two:=List (List Lin) × List (List Lin)
noncomputable def tle (x y:Cs):Two:=(two x y cle,two y x clt)
noncomputable def tlt (x y:Cs):Two:=(two x y clt,two y x cle)
noncomputable def teq (x y:Cs):Two:=(two x y ceq,two x y cne)
noncomputable def NF.cs (o:Nat) (f:NF):Two:=
 f.rec (fun x y=>tle (x.lin o) (y.lin o)) (fun x y=>tlt (x.lin o) (y.lin o)) (fun x y=>teq (x.lin o) (y.lin o)) (fun x y=>tle (x.ilin o) (y.ilin o)) (fun x y=>tlt (x.ilin o) (y.ilin o)) (fun x y=>teq (x.ilin o) (y.ilin o))
  (fun z1 p=>(p.2,p.1)) (fun z1 z2 p q=>(p.1.flatMap fun c=>q.1.map fun e=>c++e,p.2++q.2))
def Can (E:List Int) (cs:List (List Lin)):Prop:=∃ c∈cs,Sat E c
def Both (E:List Int) (t:Two) (P:Prop):Prop:=(P->Can E t.1)/\(¬ P->Can E t.2)
section
variable {E:List Int} {x y:Cs} {a b:Int} (hx:Fits E x a) (hy:Fits E y b)
include hx hy
theorem zpx {g:Lin->Lin->List (List Lin)} (h:∀ p q:Lin,ev E p=a->ev E q=b->Can E (g p q)):Can E (two x y g):=by
 obtain ⟨p,hp,p1,p2⟩:=hx
 obtain ⟨q,hq,q1,q2⟩:=hy
 obtain ⟨c,hc,h⟩:=h _ _ p2 q2
 exact ⟨_,List.mem_flatMap.mpr ⟨p,hp,List.mem_flatMap.mpr ⟨q,hq,List.mem_map.mpr ⟨c,hc,rfl⟩⟩⟩,h.app (p1.app q1)⟩
end
theorem z7r {E:List Int} {p q:Lin} {a b:Int} (e1:ev E p=a) (e2:ev E q=b) (h:a<=b):0<=ev E (sub q p):=by rw [zj6,e1,e2];exact Int.sub_nonneg_of_le h
theorem z7q {E:List Int} {p q:Lin} {a b:Int} (e1:ev E p=a) (e2:ev E q=b) (h:a<b):Can E (clt p q):=
 ⟨_,.head _,.con (by rw [zj6,zj6,e1,e2];exact Int.sub_nonneg_of_le (show 0+1<=b - a from Int.sub_pos_of_lt h)) .nil⟩
section
variable {E:List Int} {x y:Cs} {a b:Int} (hx:Fits E x a) (hy:Fits E y b)
include hx hy
theorem z81 (h:a<=b):Can E (two x y cle):=zpx hx hy fun p q e1 e2=>⟨_,.head _,.con (z7r e1 e2 h) .nil⟩
theorem z80 (h:a<b):Can E (two x y clt):=zpx hx hy fun p q e1 e2=>z7q e1 e2 h
theorem z83:Both E (tle x y) (a<=b):=⟨z81 hx hy,fun h=>z80 hy hx (Int.lt_of_not_ge h)⟩
theorem z82:Both E (tlt x y) (a<b):=⟨z80 hx hy,fun h=>z81 hy hx (Int.not_lt.mp h)⟩
theorem z84:Both E (teq x y) (a=b):=⟨fun h=>zpx hx hy fun p q e1 e2=>⟨_,.head _,.con (z7r e1 e2 (Int.le_of_eq h)) (.con (z7r e2 e1 (Int.le_of_eq h.symm)) .nil)⟩,
 fun h=>zpx hx hy fun p q e1 e2=>(Int.lt_or_gt_of_ne h).elim (fun k=>(z7q e1 e2 k).imp fun z1 z=>⟨List.mem_append_left _ z.1,z.2⟩) fun k=>(z7q e2 e1 k).imp fun z1 z=>⟨List.mem_append_right _ z.1,z.2⟩⟩
end
theorem Both.iff {E:List Int} {t:Two} {P Q:Prop} (h:Both E t P) (e:Q ↔ P):Both E t Q:=⟨fun q=>h.1 (e.mp q),fun q=>h.2 fun p=>q (e.mpr p)⟩
theorem z77 (τ:List Int) (ρ:List Nat) (f:NF):Both (env τ ρ) (f.cs τ.length) (f.den τ ρ):=by
 induction f with
 | le x y=>exact (z83 (zhw τ ρ x) (zhw τ ρ y)).iff Int.ofNat_le.symm
 | lt x y=>exact (z82 (zhw τ ρ x) (zhw τ ρ y)).iff Int.ofNat_lt.symm
 | eq x y=>exact (z84 (zhw τ ρ x) (zhw τ ρ y)).iff Int.ofNat_inj.symm
 | ile x y=>exact z83 (zfx τ ρ x) (zfx τ ρ y)
 | ilt x y=>exact z82 (zfx τ ρ x) (zfx τ ρ y)
 | ieq x y=>exact z84 (zfx τ ρ x) (zfx τ ρ y)
 | no f h=>exact ⟨h.2,fun k=>h.1 (Classical.not_not.mp k)⟩
 | an f g hf hg=>exact ⟨fun k=>by
   obtain ⟨c,hc,h1⟩:=hf.1 k.1
   obtain ⟨e,he,h2⟩:=hg.1 k.2
   exact ⟨_,List.mem_flatMap.mpr ⟨c,hc,List.mem_map.mpr ⟨e,he,rfl⟩⟩,h1.app h2⟩,fun k=>(Classical.not_and_iff_not_or_not.mp k).elim (fun k=>(hf.2 k).imp fun z1 z=>⟨List.mem_append_left _ z.1,z.2⟩) fun k=>(hg.2 k).imp fun z1 z=>⟨List.mem_append_right _ z.1,z.2⟩⟩
noncomputable def go (o n:Nat) (fs:List NF):List Lin->Bool:=fs.rec (fun acc=>fm (o+n) acc) fun f z1 ih acc=>(f.cs o).1.all fun c=>ih (c++acc)
noncomputable abbrev imp (τ:List Int) (ρ:List Nat) (fs:List NF) (g:Prop):Prop:=fs.rec g fun f z1 ih=>f.den τ ρ->ih
noncomputable def units (o n:Nat):List Lin:=n.rec [] fun n ih=>(z34 (o+n),0)::ih
theorem units_ok (τ:List Int) (ρ:List Nat) (n:Nat):Sat (env τ ρ) (units τ.length n):=by
 induction n with
 | zero=>exact .nil
 | succ n ih=>exact ih.con (Int.le_trans (Int.natCast_nonneg _) (Int.le_of_eq ((Int.add_zero _).trans ((zlc _ _).trans (zmf ρ n τ))).symm))
theorem z1y (τ:List Int) (ρ:List Nat):(env τ ρ).length=τ.length+ρ.length:=List.length_append.trans (congrArg _ (List.length_map _))
theorem z75 (τ:List Int) (ρ:List Nat) (fs:List NF):∀ acc:List Lin,go τ.length ρ.length fs acc=true->Sat (env τ ρ) acc->imp τ ρ fs False:=by
 induction fs with
 | nil=>exact fun acc h hs=>zye (env τ ρ) acc (by rw [z1y];exact h) hs
 | cons f fs ih=>
  intro acc h hs hf
  obtain ⟨c,hc,h1⟩:=(z77 τ ρ f).1 hf
  exact ih _ (List.all_eq_true.mp h c hc) (h1.app hs)
theorem fls (o n:Nat) (fs:List NF) (h:go o n fs (units o n)=true) (τ:List Int) (ρ:List Nat) (ho:τ.length=o) (hl:ρ.length=n):imp τ ρ fs False:=by
 subst hl ho
 exact z75 τ ρ fs _ h (units_ok τ ρ _)
theorem z4t {τ:List Int} {ρ:List Nat} {g:Prop} (fs:List NF):(¬ g->imp τ ρ fs False)->imp τ ρ fs g:=by
 induction fs with
 | nil=>exact Classical.byContradiction
 | cons f fs ih=>exact fun h q=>ih fun k=>h k q
theorem lin (o n:Nat) (g:NF) (fs:List NF) (h:go o n (.no g::fs) (units o n)=true) (τ:List Int) (ρ:List Nat) (ho:τ.length=o) (hl:ρ.length=n):imp τ ρ fs (g.den τ ρ):=
 z4t fs (fls o n (.no g::fs) h τ ρ ho hl)
theorem l00 (g:NF) (fs:List NF) (h:go 0 0 (.no g::fs) (units 0 0)=true):imp [] [] fs (g.den [] []):=lin 0 0 g fs h [] [] rfl rfl
theorem l01 {n0:Nat} (g:NF) (fs:List NF) (h:go 0 1 (.no g::fs) (units 0 1)=true):imp [] [n0] fs (g.den [] [n0]):=lin 0 1 g fs h [] [n0] rfl rfl
theorem l02 {n0 n1:Nat} (g:NF) (fs:List NF) (h:go 0 2 (.no g::fs) (units 0 2)=true):imp [] [n0,n1] fs (g.den [] [n0,n1]):=lin 0 2 g fs h [] [n0,n1] rfl rfl
theorem l03 {n0 n1 n2:Nat} (g:NF) (fs:List NF) (h:go 0 3 (.no g::fs) (units 0 3)=true):imp [] [n0,n1,n2] fs (g.den [] [n0,n1,n2]):=lin 0 3 g fs h [] [n0,n1,n2] rfl rfl
theorem l04 {n0 n1 n2 n3:Nat} (g:NF) (fs:List NF) (h:go 0 4 (.no g::fs) (units 0 4)=true):imp [] [n0,n1,n2,n3] fs (g.den [] [n0,n1,n2,n3]):=lin 0 4 g fs h [] [n0,n1,n2,n3] rfl rfl
theorem l05 {n0 n1 n2 n3 n4:Nat} (g:NF) (fs:List NF) (h:go 0 5 (.no g::fs) (units 0 5)=true):imp [] [n0,n1,n2,n3,n4] fs (g.den [] [n0,n1,n2,n3,n4]):=lin 0 5 g fs h [] [n0,n1,n2,n3,n4] rfl rfl
theorem l06 {n0 n1 n2 n3 n4 n5:Nat} (g:NF) (fs:List NF) (h:go 0 6 (.no g::fs) (units 0 6)=true):imp [] [n0,n1,n2,n3,n4,n5] fs (g.den [] [n0,n1,n2,n3,n4,n5]):=lin 0 6 g fs h [] [n0,n1,n2,n3,n4,n5] rfl rfl
theorem l10 {i0:Int} (g:NF) (fs:List NF) (h:go 1 0 (.no g::fs) (units 1 0)=true):imp [i0] [] fs (g.den [i0] []):=lin 1 0 g fs h [i0] [] rfl rfl
theorem l11 {i0:Int} {n0:Nat} (g:NF) (fs:List NF) (h:go 1 1 (.no g::fs) (units 1 1)=true):imp [i0] [n0] fs (g.den [i0] [n0]):=lin 1 1 g fs h [i0] [n0] rfl rfl
theorem l13 {i0:Int} {n0 n1 n2:Nat} (g:NF) (fs:List NF) (h:go 1 3 (.no g::fs) (units 1 3)=true):imp [i0] [n0,n1,n2] fs (g.den [i0] [n0,n1,n2]):=lin 1 3 g fs h [i0] [n0,n1,n2] rfl rfl
theorem l20 {i0 i1:Int} (g:NF) (fs:List NF) (h:go 2 0 (.no g::fs) (units 2 0)=true):imp [i0,i1] [] fs (g.den [i0,i1] []):=lin 2 0 g fs h [i0,i1] [] rfl rfl
theorem l21 {i0 i1:Int} {n0:Nat} (g:NF) (fs:List NF) (h:go 2 1 (.no g::fs) (units 2 1)=true):imp [i0,i1] [n0] fs (g.den [i0,i1] [n0]):=lin 2 1 g fs h [i0,i1] [n0] rfl rfl
theorem l30 {i0 i1 i2:Int} (g:NF) (fs:List NF) (h:go 3 0 (.no g::fs) (units 3 0)=true):imp [i0,i1,i2] [] fs (g.den [i0,i1,i2] []):=lin 3 0 g fs h [i0,i1,i2] [] rfl rfl
theorem l40 {i0 i1 i2 i3:Int} (g:NF) (fs:List NF) (h:go 4 0 (.no g::fs) (units 4 0)=true):imp [i0,i1,i2,i3] [] fs (g.den [i0,i1,i2,i3] []):=lin 4 0 g fs h [i0,i1,i2,i3] [] rfl rfl
end Mine.Ar
end
section
namespace Mine
set_option genSizeOf false
set_option genInjectivity false
open PySem
inductive V where
 | none
 | bool (b:Bool)
 | int (i:Int)
 | str (s:Str)
 | tup (vs:List V)
 | lst (vs:List V)
 | set (led:Bool) (vs:List V)
 | rng (lo hi:Int)
 | ref (a:Addr)
 | raw (v:Value)
 deriving Inhabited
inductive O where
 | list (vs:List V)
 | dictI (kvs:List (Int × V))
 | dictS (kvs:List (Str × V))
 | inst (C d:Addr) (fs:List (Str × V))
 | exc (C:Addr)
 deriving Inhabited
noncomputable abbrev Led:=List (Addr × O)
noncomputable abbrev zaf:=List (Str × V)
noncomputable def O.addrs (a:Addr):O->List Addr
 | .inst _ d _=>[a,d]
 | _=>[a]
noncomputable def zab:Led->List Addr
 | []=>[]
 | (a,o)::r=>o.addrs a++zab r
def PlainSeq (h:Heap) (T:String) (a:Addr) (cs:List Value):Prop:=∃ n,h.get? a=some { cls:=.type T,data:=.seq cs.toArray n }
mutual
noncomputable def VRel (h:Heap) (own:List Addr):V->Value->Prop
 | .none,c=>c=.none
 | .bool b,c=>c=.bool b
 | .int i,c=>∃ t,c=.int i t
 | .str x,c=>∃ t,c=.str x t
 | .tup vs,c=>∃ a cs,c=.ref a/\a∉own/\PlainSeq h "tuple" a cs/\cs.length<=sizeLine/\VRels h own vs cs
 | .lst vs,c=>∃ a cs,c=.ref a/\a∉own/\PlainSeq h "list" a cs/\cs.length<=sizeLine/\VRels h own vs cs
 | .set led vs,c=>∃ a es ep t,c=.ref a/\a∉own/\h.get? a=some { cls:=.type "set",data:=.set es ep t }/\(t.fits es.size=true/\es.size<=sizeLine/\t.led=led/\(t.plain=false\/t.place.toList.Pairwise (·<·)))/\VRels h own vs (es.toList.map (·.2))
 | .rng lo hi,c=>∃ a t u v,c=.ref a/\a∉own/\h.get? a=some { cls:=.type "range",data:=.fields #[.int lo t,.int hi u,.int 1 v] }
 | .ref a,c=>c=.ref a
 | .raw v,c=>c=v
noncomputable def VRels (h:Heap) (own:List Addr):List V->List Value->Prop
 | [],cs=>cs=[]
 | v::vs,cs=>∃ c cs',cs=c::cs'/\VRel h own v c/\VRels h own vs cs'
end
def Obj.isDict (o:Obj):Prop:=∃ es ep,o.data=.dict es ep
def Kept (own:List Addr) (h h':Heap):Prop:=
 ∀ b o,h.get? b=some o->b∉own->∃ sl,h'.get? b=some { o with slots:=sl }/\(¬ Obj.isDict o->sl=o.slots)
theorem Kept.refl {own:List Addr} {h:Heap}:Kept own h h:=fun z1 o e z2=>⟨o.slots,e,fun z1=>rfl⟩
theorem Kept.exact {own:List Addr} {h h':Heap} (k:Kept own h h') {b:Addr} {o:Obj} (e:h.get? b=some o) (hb:b∉own) (hd:¬ Obj.isDict o):h'.get? b=some o:=by
 obtain ⟨sl,e',hs⟩:=k b o e hb
 rw [e',hs hd]
theorem Kept.of {own:List Addr} {h h':Heap} (k:∀ b o,h.get? b=some o->b∉own->h'.get? b=some o):Kept own h h':=
 fun b o e hb=>⟨o.slots,k b o e hb,fun z1=>rfl⟩
theorem PlainSeq.notDict {T:String} {cs:List Value} {n:Nat}:¬ Obj.isDict ({ cls:=.type T,data:=.seq cs.toArray n }:Obj):=by
 rintro ⟨es,ep,e⟩;cases e
def Grow (own own':List Addr) (h:Heap):Prop:=∀ b∈own',b∈own\/h.get? b=none
def Frozen (o:Obj):Prop:=(∃ xs n,o.data=.seq xs n)\/((∃ xs,o.data=.fields xs)/\o.cls=.type "range")\/∃ es ep t,o.data=.set es ep t
theorem Frozen.notDict {o:Obj} (f:Frozen o):¬ Obj.isDict o:=by
 rintro ⟨es,ep,e⟩
 rcases f with ⟨xs,n,q⟩ | ⟨⟨xs,q⟩,_⟩ | ⟨_,_,_,q⟩ <;> rw [e] at q <;> cases q
def Carries (own own':List Addr) (h h':Heap):Prop:=∀ a o,h.get? a=some o->a∉own->Frozen o->h'.get? a=some o/\a∉own'
mutual
theorem VRel.carry {own own':List Addr} {h h':Heap} (k:Carries own own' h h'):∀ (v:V) (c:Value),VRel h own v c->VRel h' own' v c
 | .none,_,x=>x
 | .bool _,_,x=>x
 | .int _,_,x=>x
 | .str _,_,x=>x
 | .tup vs,c,x=>by
  simp only [VRel] at x ⊢
  obtain ⟨a,cs,e,ha,⟨n,hp⟩,hl,r⟩:=x
  obtain ⟨hp',ha'⟩:=k a _ hp ha (.inl ⟨_,_,rfl⟩)
  exact ⟨a,cs,e,ha',⟨n,hp'⟩,hl,VRels.carry k vs cs r⟩
 | .lst vs,c,x=>by
  simp only [VRel] at x ⊢
  obtain ⟨a,cs,e,ha,⟨n,hp⟩,hl,r⟩:=x
  obtain ⟨hp',ha'⟩:=k a _ hp ha (.inl ⟨_,_,rfl⟩)
  exact ⟨a,cs,e,ha',⟨n,hp'⟩,hl,VRels.carry k vs cs r⟩
 | .set _ vs,c,x=>by
  simp only [VRel] at x ⊢
  obtain ⟨a,es,ep,t,e,ha,hp,q,r⟩:=x
  obtain ⟨hp',ha'⟩:=k a _ hp ha (.inr (.inr ⟨_,_,_,rfl⟩))
  exact ⟨a,es,ep,t,e,ha',hp',q,VRels.carry k vs _ r⟩
 | .rng _ _,_,x=>by
  simp only [VRel] at x ⊢
  obtain ⟨a,t,u,v,e,ha,hp⟩:=x
  obtain ⟨hp',ha'⟩:=k a _ hp ha (.inr (.inl ⟨⟨_,rfl⟩,rfl⟩))
  exact ⟨a,t,u,v,e,ha',hp'⟩
 | .ref _,_,x=>x
 | .raw _,_,x=>x
theorem VRels.carry {own own':List Addr} {h h':Heap} (k:Carries own own' h h'):∀ (vs:List V) (cs:List Value),VRels h own vs cs->VRels h' own' vs cs
 | [],_,x=>x
 | v::vs,cs,x=>by
  simp only [VRels] at x ⊢
  obtain ⟨c,cs',e,r,rs⟩:=x
  exact ⟨c,cs',e,VRel.carry k v c r,VRels.carry k vs cs' rs⟩
end
theorem Kept.carries {own own':List Addr} {h h':Heap} (k:Kept own h h') (g:Grow own own' h):Carries own own' h h':=fun a o e ha f=>⟨k.exact e ha f.notDict,fun hm=>by
 rcases g a hm with q | q
 ·exact ha q
 ·rw [e] at q;cases q⟩
theorem VRel.mono {own own':List Addr} {h h':Heap} (k:Kept own h h') (g:Grow own own' h) (v:V) (c:Value) (r:VRel h own v c):VRel h' own' v c:=r.carry (k.carries g)
theorem VRels.mono {own own':List Addr} {h h':Heap} (k:Kept own h h') (g:Grow own own' h) (vs:List V) (cs:List Value) (r:VRels h own vs cs):VRels h' own' vs cs:=r.carry (k.carries g)
structure Base where
 prog:Program
 w:World
 h0:Heap
 mg:Str->Option Value
 mb:Str->Option Value
 hd:Bool
inductive z64 {p:Program} {w:World} {K:Type} [DecidableEq K] (knd:KeyKind p w K) (h:Heap) (own:List Addr) (a:Addr) (kvs:List (K × V)):Prop
 | mk (cs:List (K × Value)):(a == sysModules)=false->h.DictOf knd a cs->cs.map (·.1)=kvs.map (·.1)->VRels h own (kvs.map (·.2)) (cs.map (·.2))->z64 knd h own a kvs
noncomputable abbrev DictR (k:Base) {K:Type} [DecidableEq K] (knd:KeyKind k.prog k.w K) (h:Heap) (own:List Addr) (a:Addr) (kvs:List (K × V)):Prop:=z64 knd h own a kvs
theorem DictR.carry {k:Base} {K:Type} [DecidableEq K] {knd:KeyKind k.prog k.w K} {h h':Heap} {own own':List Addr} {a:Addr} {kvs:List (K × V)} (r:DictR k knd h own a kvs) (hk:∀ o,h.get? a=some o->h'.get? a=some o) (hc:Carries own own' h h'):DictR k knd h' own' a kvs:=by
 obtain ⟨cs,hs,⟨o,es,ep,ho,q⟩,e,rs⟩:=r
 exact ⟨cs,hs,⟨o,es,ep,hk o ho,q⟩,e,rs.carry hc⟩
theorem DictR.there {k:Base} {K:Type} [DecidableEq K] {knd:KeyKind k.prog k.w K} {h:Heap} {own:List Addr} {a:Addr} {kvs:List (K × V)} (r:DictR k knd h own a kvs):∃ o,h.get? a=some o:=by
 obtain ⟨_,_,⟨o,_,_,ho,_⟩,_⟩:=r
 exact ⟨o,ho⟩
inductive InstR (h:Heap) (own:List Addr) (a C d:Addr) (fs:List (Str × V)):Prop
 | mk (o:Obj) (mA:Str->Option Value):h.get? a=some o->o.cls=.ref C->o.data=.plain->o.dict=some d->d≠a->h.Ns1 d mA->(∀ x v,fs.lookup x=some v->∃ cv,mA x=some cv/\VRel h own v cv)->(∀ x,fs.lookup x=none->mA x=none)->InstR h own a C d fs
inductive z54 (h:Heap) (own:List Addr) (a:Addr) (vs:List V):Prop
 | mk (cs:List Value):PlainSeq h "list" a cs->cs.length<=sizeLine->VRels h own vs cs->z54 h own a vs
inductive z89 (h:Heap) (a C:Addr):Prop
 | mk (o:Obj) (vs:Array Value):h.get? a=some o->o.cls=.ref C->o.data=.fields vs->z89 h a C
theorem InstR.carry {h h':Heap} {own own':List Addr} {a C d:Addr} {fs:List (Str × V)} (r:InstR h own a C d fs) (hk:∀ b,b=a\/b=d->∀ o,h.get? b=some o->h'.get? b=some o) (hc:Carries own own' h h'):InstR h' own' a C d fs:=by
 obtain ⟨o,mA,ho,h1,h2,h3,h4,⟨od,es,ep,hd,q⟩,h6,h7⟩:=r
 refine ⟨o,mA,hk a (.inl rfl) o ho,h1,h2,h3,h4,⟨od,es,ep,hk d (.inr rfl) od hd,q⟩,fun x v e=>?_,h7⟩
 obtain ⟨cv,e1,e2⟩:=h6 x v e
 exact ⟨cv,e1,e2.carry hc⟩
noncomputable def ORel (k:Base) (h:Heap) (own:List Addr) (a:Addr):O->Prop
 | .list vs=>z54 h own a vs
 | .dictI kvs=>DictR k (intKind k.prog k.w) h own a kvs
 | .dictS kvs=>DictR k (strKind k.prog k.w) h own a kvs
 | .inst C d fs=>InstR h own a C d fs
 | .exc C=>z89 h a C
structure Base.OK (k:Base):Prop where
 g:k.h0.Ns mainGlobals k.mg
 b:k.h0.Ns builtinsNs k.mb
 nolimit:k.h0.NoLimit
structure Cx where
 k:Base
 F:List Addr:=[]
 H:List Addr:=[]
noncomputable abbrev zah (c:Cx) (σ:Led):List Addr:=c.H++zab σ
inductive zwx (h0:Heap) (F:List Addr) (fr:Option (List Env)) (σ:Led) (h:Heap):Prop
 | mk (l:List Env):fr=some l->h.FunFrames h0 l->(∀ L∈l.filterMap (·.frame),L∉zab σ/\L∉F/\∀ o,h.get? L=some o->Obj.isDict o)->zwx h0 F fr σ h
structure St (c:Cx) (A:Around) (σ:Led) (h:Heap):Prop where
 keep:∀ b o,c.k.h0.get? b=some o->h.get? b=some o
 nodup:(zab σ).Nodup
 fresh:∀ a∈zab σ,c.k.h0.get? a=none
 objs:∀ a o,(a,o)∈σ->ORel c.k h (zah c σ) a o
 frames:zwx c.k.h0 c.F A.frames σ h
 prot:∀ b∈c.F,∃ o,h.get? b=some o
 hid:∀ b∈c.H,b∉zab σ/\∃ o,h.get? b=some o
structure Step (F own own':List Addr) (s s':Shared):Prop where
 kept:Kept own s.heap s'.heap
 there:∀ b o,s.heap.get? b=some o->∃ o',s'.heap.get? b=some o'
 prot:∀ b∈F,∀ o,s.heap.get? b=some o->s'.heap.get? b=some o
 grow:Grow own own' s.heap
 os:s'.os=s.os
 gens:s'.gens=s.gens
theorem Step.refl {F own:List Addr} {s:Shared}:Step F own own s s:=⟨.refl,fun z1 o e=>⟨o,e⟩,fun z1 z2 z3 e=>e,fun z1 h=>.inl h,rfl,rfl⟩
theorem Step.toks {F own:List Addr} {s:Shared} {t:Nat}:Step F own own s { s with toks:=t }:=⟨.refl,fun z1 o e=>⟨o,e⟩,fun z1 z2 z3 e=>e,fun z1 h=>.inl h,rfl,rfl⟩
theorem Obj.isDict_slots {o:Obj} {sl:Array (Option Value)}:Obj.isDict { o with slots:=sl } ↔ Obj.isDict o:=Iff.rfl
theorem Kept.trans {own own':List Addr} {h h' h'':Heap} (x:Kept own h h') (g:Grow own own' h) (y:Kept own' h' h''):Kept own h h'':=by
 intro b o e hb
 obtain ⟨sl,e1,s1⟩:=x b o e hb
 have hb':b∉own':=fun hm=>by
  rcases g b hm with q | q
  ·exact hb q
  ·rw [e] at q;cases q
 obtain ⟨sl2,e2,s2⟩:=y b _ e1 hb'
 exact ⟨sl2,e2,fun hd=>(s2 hd).trans (s1 hd)⟩
theorem Grow.trans {own own' own'':List Addr} {h h':Heap} (k:Kept own h h') (x:Grow own own' h) (y:Grow own' own'' h'):Grow own own'' h:=by
 intro b hb
 rcases y b hb with q | q
 ·exact x b q
 ·by_cases ho:b∈own
  ·exact .inl ho
  ·cases e:h.get? b with
   | none=>exact .inr rfl
   | some o=>obtain ⟨sl,e1,_⟩:=k b o e ho;rw [e1] at q;cases q
theorem Step.trans {F own own' own'':List Addr} {s s' s'':Shared} (x:Step F own own' s s') (y:Step F own' own'' s' s''):Step F own own'' s s'':=
 ⟨x.kept.trans x.grow y.kept,fun b o e=>(x.there b o e).elim fun o' e'=>y.there b o' e',fun b hb o e=>y.prot b hb o (x.prot b hb o e),x.grow.trans x.kept y.grow,y.os.trans x.os,y.gens.trans x.gens⟩
theorem Kept.wider {own W:List Addr} {h h':Heap} (x:Kept own h h'):Kept (W++own) h h':=fun b o e hb=>x b o e fun hm=>hb (List.mem_append_right _ hm)
theorem Grow.wider {own own' W:List Addr} {h:Heap} (x:Grow own own' h):Grow (W++own) (W++own') h:=fun b hb=>by
 rcases List.mem_append.mp hb with q | q
 ·exact .inl (List.mem_append_left _ q)
 ·exact (x b q).imp (List.mem_append_right _) id
theorem Step.v {F own own' H:List Addr} {s s':Shared} (x:Step F own own' s s') {v:V} {c:Value} (r:VRel s.heap (H++own) v c):VRel s'.heap (H++own') v c:=VRel.mono x.kept.wider x.grow.wider v c r
theorem Step.vs {F own own' H:List Addr} {s s':Shared} (x:Step F own own' s s') {vs:List V} {cs:List Value} (r:VRels s.heap (H++own) vs cs):VRels s'.heap (H++own') vs cs:=VRels.mono x.kept.wider x.grow.wider vs cs r
structure zco (env:Env):Prop where
 kind:env.scope.kind=.function
 nodebug:env.kindOf "__debug__"=none
 noclassdict:env.kindOf "__classdict__"≠some .free
 globals:env.globals=mainGlobals
 builtins:env.builtins=builtinsNs
 cell:∀ x,env.kindOf x=some .cell\/env.kindOf x=some .free->∃ a,env.cells.lookup x=some a
inductive NsR (own:List Addr) (env:Env) (m:zaf) (h:Heap):Prop
 | mk (mc:Str->Option Value):h.Ns env.locals mc->(∀ x v,m.lookup x=some v->env.kindOf x=some .local->∃ cv,mc x=some cv/\VRel h own v cv)->NsR own env m h
inductive z7e (h:Heap) (own:List Addr) (env:Env) (x:Str) (v:V):Prop
 | mk (a:Addr) (cv:Value):env.cells.lookup x=some a->h.IsCell a (some cv)->VRel h own v cv->z7e h own env x v
structure EnvRel (c:Cx) (own:List Addr) (env:Env) (m:zaf) (h:Heap):Prop where
 ns:NsR own env m h
 cell:∀ x v,m.lookup x=some v->(env.kindOf x=some .cell\/env.kindOf x=some .free)->z7e h own env x v
 lnot:env.locals∉own/\c.k.h0.get? env.locals=none/\env.locals∉c.F
 cnot:∀ x a,(x,a)∈env.cells->a∉own/\a≠env.locals/\c.k.h0.get? a=none/\a∉c.F/\∃ v,h.IsCell a v
 apart:env.cells.Pairwise (fun x y=>x.2≠y.2)
theorem Kept.ns {own:List Addr} {h h':Heap} {a:Addr} {m:Str->Option Value} (k:Kept own h h') (ha:a∉own) (x:h.Ns a m):h'.Ns a m:=by
 obtain ⟨o,es,ep,ho,hd,hk,hm⟩:=x
 obtain ⟨sl,e,_⟩:=k a o ho ha
 exact ⟨_,es,ep,e,hd,hk,hm⟩
theorem Kept.isCell {own:List Addr} {h h':Heap} {a:Addr} {v:Option Value} (k:Kept own h h') (ha:a∉own) (x:h.IsCell a v):h'.IsCell a v:=by
 obtain ⟨o,ho,hd⟩:=x
 obtain ⟨sl,e,_⟩:=k a o ho ha
 exact ⟨_,e,hd⟩
theorem Grow.notin {own own':List Addr} {h:Heap} {a:Addr} {o:Obj} (g:Grow own own' h) (ha:a∉own) (e:h.get? a=some o):a∉own':=fun hm=>by
 rcases g a hm with q | q
 ·exact ha q
 ·rw [e] at q;cases q
theorem EnvRel.mono {c:Cx} {own own':List Addr} {env:Env} {m:zaf} {h h':Heap} (k:Kept own h h') (g:Grow own own' h) (x:EnvRel c own env m h):EnvRel c own' env m h':=by
 obtain ⟨mc,hn,hm⟩:=x.ns
 have hL:env.locals∉own':=by
  obtain ⟨o,_,_,e,_⟩:=id hn
  exact g.notin x.lnot.1 e
 refine ⟨⟨mc,k.ns x.lnot.1 hn,fun y v hy hk=>?_⟩,fun y v hy hk=>?_,⟨hL,x.lnot.2⟩,fun y a ha=>?_,x.apart⟩
 ·obtain ⟨cv,e,r⟩:=hm y v hy hk
  exact ⟨cv,e,r.mono k g v cv⟩
 ·obtain ⟨a,cv,e,hc,r⟩:=x.cell y v hy hk
  exact ⟨a,cv,e,k.isCell (x.cnot y a (mem_of_lookup e)).1 hc,r.mono k g v cv⟩
 ·obtain ⟨h1,h2,h3,hf,v,h4⟩:=x.cnot y a ha
  obtain ⟨o,e,_⟩:=id h4
  exact ⟨g.notin h1 e,h2,h3,hf,v,k.isCell h1 h4⟩
structure AOk (k:Base) (d:Nat) (A:Around):Prop where
 handled:k.hd=true->A.handled=none
 depth:A.depth+d<900
 units:A.units+20 * d<9000
 le:d<=100
inductive z9a (e:Addr) (cls:Value) (base h:Heap):Prop
 | mk (oe:Obj) (vs:Array Value):h.get? e=some oe->oe.cls=cls->oe.data=.fields vs->
  (vs[1]?=some .none\/∃ T oT ts,vs[1]?=some (.ref T)/\base.get? T=none/\T≠e/\h.get? T=some oT/\oT.cls=.type "traceback"/\oT.data=.fields ts/\ts[3]?=some .none)->z9a e cls base h
structure ExcAt (e:Addr) (cls:Value) (base h:Heap):Prop where
 new:base.get? e=none
 own:∃ C,cls=.ref C
 obj:z9a e cls base h
theorem ExcAt.sooner {e:Addr} {cls:Value} {base base' h:Heap} (k:∀ b o,base.get? b=some o->∃ o',base'.get? b=some o') (x:ExcAt e cls base' h):ExcAt e cls base h:=by
 have no:∀ b,base'.get? b=none->base.get? b=none:=fun b q=>by
  cases r:base.get? b with
  | none=>rfl
  | some o=>obtain ⟨o',e'⟩:=k b o r;rw [q] at e';cases e'
 obtain ⟨h1,hC,oe,vs,h2,h3,h4,h5⟩:=x
 refine ⟨no e h1,hC,oe,vs,h2,h3,h4,h5.imp id fun q=>?_⟩
 obtain ⟨T,oT,ts,q1,q2,q3⟩:=q
 exact ⟨T,oT,ts,q1,no T q2,q3⟩
noncomputable abbrev XP:=Value->Led->Prop
def EOk (c:Cx) (A:Around) (X:XP) (own:List Addr) (s:Shared) (E:Value->Shared->Prop):Prop:=
 ∀ e cls σ' s',X cls σ'->Step c.F own (zab σ') s s'->St c A σ' s'.heap->ExcAt e cls s.heap s'.heap->E (.ref e) s'
theorem EOk.step {c:Cx} {A:Around} {X:XP} {own own':List Addr} {s s':Shared} {E:Value->Shared->Prop} (x:EOk c A X own s E) (st:Step c.F own own' s s'):EOk c A X own' s' E:=
 fun e cls σ' s'' hx st' h he=>x e cls σ' s'' hx (st.trans st') h (he.sooner st.there)
inductive Post (c:Cx) (A:Around) (σ:Led) (s:Shared) (P:V->Led->Prop) (cv:Value) (s':Shared):Prop
 | mk (v:V) (σ':Led):P v σ'->Step c.F (zab σ) (zab σ') s s'->St c A σ' s'.heap->VRel s'.heap (zah c σ') v cv->Post c A σ s P cv s'
theorem Post.step {c:Cx} {A:Around} {σ σ₁:Led} {s s₁ s':Shared} {P:V->Led->Prop} {cv:Value} (st:Step c.F (zab σ) (zab σ₁) s s₁) (x:Post c A σ₁ s₁ P cv s'):Post c A σ s P cv s':=by
 obtain ⟨v,σ',hp,st',h,r⟩:=x
 exact ⟨v,σ',hp,st.trans st',h,r⟩
theorem Post.imp {c:Cx} {A:Around} {σ:Led} {s s':Shared} {P P':V->Led->Prop} {cv:Value} (k:∀ v σ',P v σ'->P' v σ') (x:Post c A σ s P cv s'):Post c A σ s P' cv s':=by
 obtain ⟨v,σ',hp,t,u,w⟩:=x
 exact ⟨v,σ',k v σ' hp,t,u,w⟩
inductive PostK (c:Cx) (A:Around) (σ:Led) (s:Shared) (K:Led->Prop) (s':Shared):Prop
 | mk (σ':Led):K σ'->Step c.F (zab σ) (zab σ') s s'->St c A σ' s'.heap->PostK c A σ s K s'
theorem PostK.imp {c:Cx} {A:Around} {σ:Led} {s s':Shared} {K K':Led->Prop} (k:∀ σ',K σ'->K' σ') (x:PostK c A σ s K s'):PostK c A σ s K' s':=by
 obtain ⟨σ',hp,t,u⟩:=x
 exact ⟨σ',k σ' hp,t,u⟩
noncomputable abbrev Cx.M (c:Cx):Model:=model c.k.prog c.k.w
noncomputable def zu7 (sc:Scope) (x:Str):Bool:=match sc.names.lookup x with
 | some .local | some .cell | some .free=>true
 | _=>false
theorem zsf {sc:Scope} {x:Str} (h:zu7 sc x=true):sc.names.lookup x=some .local\/sc.names.lookup x=some .cell\/sc.names.lookup x=some .free:=by
 unfold zu7 at h
 split at h <;> simp_all
structure RE (c:Cx) (d:Nat) (sc:Scope) (m:zaf) (σ:Led) (X:XP) (env:Env) (A:Around) (s:Shared) (E:Value->Shared->Prop):Prop where
 sc:env.scope=sc
 ok:zco env
 a:AOk c.k d A
 st:St c A σ s.heap
 er:EnvRel c (zah c σ) env m s.heap
 e:EOk c A X (zab σ) s E
theorem RE.step {c:Cx} {d:Nat} {sc:Scope} {m:zaf} {σ σ₁:Led} {X:XP} {env:Env} {A:Around} {s s₁:Shared} {E:Value->Shared->Prop} (x:RE c d sc m σ X env A s E)
  (t:Step c.F (zab σ) (zab σ₁) s s₁) (h:St c A σ₁ s₁.heap):RE c d sc m σ₁ X env A s₁ E:=⟨x.sc,x.ok,x.a,h,x.er.mono t.kept.wider t.grow.wider,x.e.step t⟩
def WE (c:Cx) (d:Nat) (sc:Scope) (e:Expr) (m:zaf) (σ:Led) (P:V->Led->Prop) (X:XP):Prop:=
 ∀ (env:Env) (A:Around) (s:Shared) (E:Value->Shared->Prop),RE c d sc m σ X env A s E->wpAny c.M A (eval e env) (Post c A σ s P) E s
inductive PostL (c:Cx) (A:Around) (σ:Led) (s:Shared) (P:List V->Led->Prop) (cvs:List Value) (s':Shared):Prop
 | mk (vs:List V) (σ':Led):P vs σ'->Step c.F (zab σ) (zab σ') s s'->St c A σ' s'.heap->VRels s'.heap (zah c σ') vs cvs->PostL c A σ s P cvs s'
theorem PostL.imp {c:Cx} {A:Around} {σ:Led} {s s':Shared} {P P':List V->Led->Prop} {cv:List Value} (k:∀ v σ',P v σ'->P' v σ') (x:PostL c A σ s P cv s'):PostL c A σ s P' cv s':=by
 obtain ⟨v,σ',hp,t,u,w⟩:=x
 exact ⟨v,σ',k v σ' hp,t,u,w⟩
def WEs (c:Cx) (d:Nat) (sc:Scope) (es:List Expr) (m:zaf) (σ:Led) (P:List V->Led->Prop) (X:XP):Prop:=
 ∀ (env:Env) (A:Around) (s:Shared) (E:Value->Shared->Prop) (pos:Pos),RE c d sc m σ X env A s E->
  (starEach es env).any (·.1)=false/\wpAny c.M A (spliced (backTo pos (starEach es env))) (PostL c A σ s (fun vs σ'=>vs.length=es.length/\P vs σ')) E s
inductive PostB (c:Cx) (A:Around) (σ:Led) (s:Shared) (P:Bool->Led->Prop) (b:Bool) (s':Shared):Prop
 | mk (σ':Led):P b σ'->Step c.F (zab σ) (zab σ') s s'->St c A σ' s'.heap->PostB c A σ s P b s'
theorem PostB.step {c:Cx} {A:Around} {σ σ₁:Led} {s s₁ s':Shared} {P:Bool->Led->Prop} {b:Bool} (st:Step c.F (zab σ) (zab σ₁) s s₁) (x:PostB c A σ₁ s₁ P b s'):PostB c A σ s P b s':=by
 obtain ⟨σ',hp,st',h⟩:=x
 exact ⟨σ',hp,st.trans st',h⟩
theorem PostB.imp {c:Cx} {A:Around} {σ:Led} {s s':Shared} {P P':Bool->Led->Prop} {b b':Bool} (k:∀ σ',P b σ'->P' b' σ') (x:PostB c A σ s P b s'):PostB c A σ s P' b' s':=by
 obtain ⟨σ',hp,t,u⟩:=x
 exact ⟨σ',k σ' hp,t,u⟩
def WT (c:Cx) (d:Nat) (sc:Scope) (e:Expr) (m:zaf) (σ:Led) (P:Bool->Led->Prop) (X:XP):Prop:=
 ∀ (env:Env) (A:Around) (s:Shared) (E:Value->Shared->Prop),RE c d sc m σ X env A s E->wpAny c.M A (isTrue e env (eval e env)) (PostB c A σ s P) E s
def WTs (c:Cx) (d:Nat) (sc:Scope) (op:BoolOp) (es:List Expr) (m:zaf) (σ:Led) (P:Bool->Led->Prop) (X:XP):Prop:=
 ∀ (env:Env) (A:Around) (s:Shared) (E:Value->Shared->Prop),RE c d sc m σ X env A s E->wpAny c.M A (allTrue op es env) (PostB c A σ s P) E s
def WEb (c:Cx) (d:Nat) (sc:Scope) (op:BoolOp) (es:List Expr) (m:zaf) (σ:Led) (P:V->Led->Prop) (X:XP):Prop:=
 ∀ (env:Env) (A:Around) (s:Shared) (E:Value->Shared->Prop) (pos:Pos),RE c d sc m σ X env A s E->wpAny c.M A (boolOp pos op (evalEach es env)) (Post c A σ s P) E s
def Op1 (c:Cx) (d:Nat) (t:Value->Sem Value) (a:V) (σ:Led) (P:V->Led->Prop):Prop:=
 ∀ (A:Around) (s:Shared) (E:Value->Shared->Prop) (ca:Value),AOk c.k d A->St c A σ s.heap->VRel s.heap (zah c σ) a ca->wpAny c.M A (t ca) (Post c A σ s P) E s
def Op2 (c:Cx) (d:Nat) (t:Value->Value->Sem Value) (a b:V) (σ:Led) (P:V->Led->Prop):Prop:=
 ∀ (A:Around) (s:Shared) (E:Value->Shared->Prop) (ca cb:Value),AOk c.k d A->St c A σ s.heap->VRel s.heap (zah c σ) a ca->VRel s.heap (zah c σ) b cb->wpAny c.M A (t ca cb) (Post c A σ s P) E s
def CallS (c:Cx) (d:Nat) (f:Value) (vs:List V) (σ:Led) (P:V->Led->Prop) (X:XP):Prop:=
 ∀ (A:Around) (s:Shared) (E:Value->Shared->Prop) (cs:List Value),AOk c.k d A->St c A σ s.heap->VRels s.heap (zah c σ) vs cs->EOk c A X (zab σ) s E->
  wpAny c.M A (call f cs) (Post c A σ s P) E s
inductive Fl where
 | next | brk | cont
 | ret (v:V)
noncomputable def z3u (h:Heap) (own:List Addr):Fl->Flow->Prop
 | .next,f=>f=.next
 | .brk,f=>f=.brk
 | .cont,f=>f=.cont
 | .ret v,f=>∃ cv,f=.ret cv/\VRel h own v cv
noncomputable def places (env:Env):List Addr:=env.locals::env.cells.map (·.2)
inductive PostS (c:Cx) (A:Around) (env:Env) (σ:Led) (s:Shared) (K:Fl->zaf->Led->Prop) (f:Flow) (s':Shared):Prop
 | mk (fl:Fl) (m':zaf) (σ':Led):K fl m' σ'->Step c.F (places env++zab σ) (places env++zab σ') s s'->St c A σ' s'.heap->EnvRel c (zah c σ') env m' s'.heap->z3u s'.heap (zah c σ') fl f->PostS c A env σ s K f s'
theorem PostS.step {c:Cx} {A:Around} {env:Env} {σ σ₁:Led} {s s₁ s':Shared} {K:Fl->zaf->Led->Prop} {f:Flow} (st:Step c.F (places env++zab σ) (places env++zab σ₁) s s₁) (x:PostS c A env σ₁ s₁ K f s') :
  PostS c A env σ s K f s':=by
 obtain ⟨v,m',σ',hp,st',h,r,q⟩:=x
 exact ⟨v,m',σ',hp,st.trans st',h,r,q⟩
theorem PostS.imp {c:Cx} {A:Around} {env:Env} {σ:Led} {s s':Shared} {K K':Fl->zaf->Led->Prop} {f:Flow} (k:∀ f m' σ',K f m' σ'->K' f m' σ') (x:PostS c A env σ s K f s'):PostS c A env σ s K' f s':=by
 obtain ⟨v,m',σ',hp,t,h,r,q⟩:=x
 exact ⟨v,m',σ',k v m' σ' hp,t,h,r,q⟩
def EOkS (c:Cx) (A:Around) (X:XP) (env:Env) (σ:Led) (s:Shared) (E:Value->Shared->Prop):Prop:=
 ∀ e cls σ' s',X cls σ'->Step c.F (places env++zab σ) (places env++zab σ') s s'->St c A σ' s'.heap->EnvRel c (zah c σ') env [] s'.heap->ExcAt e cls s.heap s'.heap->E (.ref e) s'
theorem EOkS.step {c:Cx} {A:Around} {X:XP} {env:Env} {σ σ₁:Led} {s s':Shared} {E:Value->Shared->Prop} (x:EOkS c A X env σ s E) (st:Step c.F (places env++zab σ) (places env++zab σ₁) s s'):EOkS c A X env σ₁ s' E:=
 fun e cls σ' s'' hx st' h er he=>x e cls σ' s'' hx (st.trans st') h er (he.sooner st.there)
structure RS (c:Cx) (d:Nat) (sc:Scope) (m:zaf) (σ:Led) (X:XP) (env:Env) (A:Around) (s:Shared) (E:Value->Shared->Prop):Prop where
 sc:env.scope=sc
 ok:zco env
 fr:∃ outer,A.frames=some (env::outer)
 a:AOk c.k d A
 st:St c A σ s.heap
 er:EnvRel c (zah c σ) env m s.heap
 e:EOkS c A X env σ s E
theorem Step.wider {F own own' W:List Addr} {s s':Shared} (x:Step F own own' s s'):Step F (W++own) (W++own') s s':=⟨x.kept.wider,x.there,x.prot,x.grow.wider,x.os,x.gens⟩
theorem EnvRel.nil {c:Cx} {own:List Addr} {env:Env} {m:zaf} {h:Heap} (x:EnvRel c own env m h):EnvRel c own env [] h:=
 ⟨by obtain ⟨mc,q,_⟩:=x.ns;exact ⟨mc,q,fun z1 z2 q=>by cases q⟩,(fun z1 z2 q=>by cases q),x.lnot,x.cnot,x.apart⟩
theorem RS.re {c:Cx} {d:Nat} {sc:Scope} {m:zaf} {σ:Led} {X:XP} {env:Env} {A:Around} {s:Shared} {E:Value->Shared->Prop} (x:RS c d sc m σ X env A s E):RE c d sc m σ X env A s E:=
 ⟨x.sc,x.ok,x.a,x.st,x.er,fun e cls σ' s' hx st h he=>x.e e cls σ' s' hx st.wider h (x.er.mono st.kept.wider st.grow.wider).nil he⟩
theorem RS.step {c:Cx} {d:Nat} {sc:Scope} {m m₁:zaf} {σ σ₁:Led} {X:XP} {env:Env} {A:Around} {s s₁:Shared} {E:Value->Shared->Prop} (x:RS c d sc m σ X env A s E)
  (t:Step c.F (places env++zab σ) (places env++zab σ₁) s s₁) (h:St c A σ₁ s₁.heap) (er:EnvRel c (zah c σ₁) env m₁ s₁.heap):RS c d sc m₁ σ₁ X env A s₁ E:=⟨x.sc,x.ok,x.fr,x.a,h,er,x.e.step t⟩
def WS (c:Cx) (d:Nat) (sc:Scope) (st:Stmt) (m:zaf) (σ:Led) (K:Fl->zaf->Led->Prop) (X:XP):Prop:=
 ∀ (env:Env) (A:Around) (s:Shared) (E:Value->Shared->Prop),RS c d sc m σ X env A s E->wpAny c.M A (exec st env) (PostS c A env σ s K) E s
def WSs (c:Cx) (d:Nat) (sc:Scope) (sts:List Stmt) (m:zaf) (σ:Led) (K:Fl->zaf->Led->Prop) (X:XP):Prop:=
 ∀ (env:Env) (A:Around) (s:Shared) (E:Value->Shared->Prop),RS c d sc m σ X env A s E->wpAny c.M A (execs sts env) (PostS c A env σ s K) E s
end Mine
end
section
namespace Mine
open PySem
variable {c:Cx} {d:Nat} {sc:Scope} {m:zaf} {σ:Led} {P:V->Led->Prop} {X:XP}
theorem Post.same {A:Around} {s:Shared} {v:V} {cv:Value} {t:Nat} (hs:St c A σ s.heap) (h:P v σ) (r:VRel s.heap (zah c σ) v cv):Post c A σ s P cv { s with toks:=t }:=
 ⟨v,σ,h,.toks,hs,r⟩
theorem Post.same' {A:Around} {s:Shared} {v:V} {cv:Value} (hs:St c A σ s.heap) (h:P v σ) (r:VRel s.heap (zah c σ) v cv):Post c A σ s P cv s:=
 ⟨v,σ,h,.refl,hs,r⟩
theorem z5k {i:Int} {k:Nat} {pos:Pos} (h:P (.int i) σ):WE c d sc (.Constant (.int i) k pos) m σ P X:=
 fun z1 z2 z3 z4 r=>wpAny_Constant_int (Post.same r.st h (by simp only [VRel];exact ⟨_,rfl⟩))
theorem z0i {x:Str} {k:Nat} {pos:Pos} (h:P (.str x) σ):WE c d sc (.Constant (.str x) k pos) m σ P X:=
 fun z1 z2 z3 z4 r=>Calls.Constant_str (Post.same r.st h (by simp only [VRel];exact ⟨_,rfl⟩))
theorem z2n {b:Bool} {k:Nat} {pos:Pos} (h:P (.bool b) σ):WE c d sc (.Constant (.bool b) k pos) m σ P X:=
 fun z1 z2 z3 z4 r=>wpAny_Constant_bool (Post.same' r.st h (by simp only [VRel]))
theorem z2i {k:Nat} {pos:Pos} (h:P .none σ):WE c d sc (.Constant .none k pos) m σ P X:=
 fun z1 z2 z3 z4 r=>wpAny_Constant_none (Post.same' r.st h (by simp only [VRel]))
theorem nodebug {env:Env} (ok:zco env) {x:Str} {k:NameKind} (h:env.kindOf x=some k):(x == ("__debug__":Str))=false:=by
 rw [beq_eq_false_iff_ne]
 rintro rfl
 rw [ok.nodebug] at h;cases h
theorem z2j {x:Str} {pos:Pos} {v:V} (hx:m.lookup x=some v) (h:P v σ) (hk:zu7 sc x=true):WE c d sc (.Name x pos) m σ P X:=by
 intro env A s E r
 have hk':env.kindOf x=some .local\/env.kindOf x=some .cell\/env.kindOf x=some .free:=by unfold Env.kindOf;rw [r.sc];exact zsf hk
 rcases hk' with hk | hk | hk
 ·obtain ⟨mc,hn,hm⟩:=r.er.ns
  obtain ⟨cv,e,rv⟩:=hm x v hx hk
  exact wpAny_Name (wpAny_loadName_local r.ok.kind hk hn e (Post.same' r.st h rv)) (nodebug r.ok hk)
 ·obtain ⟨a,cv,e,hc,rv⟩:=r.er.cell x v hx (.inl hk)
  exact wpAny_Name (wpAny_loadName_cell r.ok.kind hk e hc (Post.same' r.st h rv)) (nodebug r.ok hk)
 ·obtain ⟨a,cv,e,hc,rv⟩:=r.er.cell x v hx (.inr hk)
  by_cases hcd:(x == ("__classdict__":Str))=true
  ·exfalso
   exact r.ok.noclassdict (by rw [beq_iff_eq] at hcd;rw [← hcd];exact hk)
  ·exact wpAny_Name (wpAny_loadName_free r.ok.kind hk e hc (Post.same' r.st h rv) (by simpa using hcd)) (nodebug r.ok hk)
theorem zif (hc:c.k.OK) {x:Str} {pos:Pos} {v:V} {cv:Value} (hk:sc.names.lookup x=some .globalImplicit) (hg:c.k.mg x=some cv) (hv:∀ h own,VRel h own v cv) (h:P v σ):WE c d sc (.Name x pos) m σ P X:=by
 intro env A s E r
 have hk':env.kindOf x=some .globalImplicit:=by unfold Env.kindOf;rw [r.sc];exact hk
 refine Calls.Name_function_global r.ok.kind hk' (Calls.loadGlobal_global (mg:=c.k.mg) ?_ hg (Post.same' r.st h (hv _ _))) (nodebug r.ok hk')
 rw [r.ok.globals];exact hc.g.keeps r.st.keep
theorem zj8 (hc:c.k.OK) {x:Str} {pos:Pos} {cv:Value} (hk:sc.names.lookup x=some .globalImplicit) (hg:c.k.mg x=none) (hb:c.k.mb x=some cv) (h:P (.raw cv) σ):WE c d sc (.Name x pos) m σ P X:=by
 intro env A s E r
 have hk':env.kindOf x=some .globalImplicit:=by unfold Env.kindOf;rw [r.sc];exact hk
 refine Calls.Name_function_global r.ok.kind hk' (Calls.loadGlobal_builtin (mg:=c.k.mg) (mb:=c.k.mb) ?_ hg ?_ hb (Post.same' r.st h (by simp only [VRel]))) (nodebug r.ok hk')
 ·rw [r.ok.globals];exact hc.g.keeps r.st.keep
 ·rw [r.ok.builtins];exact hc.b.keeps r.st.keep
theorem zzb {l r':Expr} {op:Operator} {pos:Pos} (h:WE c d sc l m σ (fun a σ₁=>WE c d sc r' m σ₁ (fun b σ₂=>Op2 c d (binaryOp op) a b σ₂ P) X) X):WE c d sc (.BinOp l op r' pos) m σ P X:=by
 intro env A s E r
 refine wpAny_BinOp (wpAny_mono (h env A s E r) ?_ fun z1 z2 x=>x)
 rintro ca s₁ ⟨a,σ₁,h₁,t₁,hs₁,ra⟩
 refine wpAny_mono (h₁ env A s₁ E (r.step t₁ hs₁)) ?_ fun z1 z2 x=>x
 rintro cb s₂ ⟨b,σ₂,h₂,t₂,hs₂,rb⟩
 exact wpAny_mono (h₂ A s₂ E ca cb r.a hs₂ (t₂.v ra) rb) (fun z1 z2 p=>(p.step t₂).step t₁) fun z1 z2 x=>x
theorem zy4 {e:Expr} {op:UnaryOp} {pos:Pos} (h:WE c d sc e m σ (fun a σ₁=>Op1 c d (unaryOp op) a σ₁ P) X):WE c d sc (.UnaryOp op e pos) m σ P X:=by
 intro env A s E r
 refine wpAny_UnaryOp (wpAny_mono (h env A s E r) ?_ fun z1 z2 x=>x)
 rintro ca s₁ ⟨a,σ₁,h₁,t₁,hs₁,ra⟩
 exact wpAny_mono (h₁ A s₁ E ca r.a hs₁ ra) (fun z1 z2 p=>p.step t₁) fun z1 z2 x=>x
theorem z5x {i:Int} (h:P (.int (-i)) σ):Op1 c d (unaryOp .USub) (.int i) σ P:=by
 intro A s E ca _ st ra
 simp only [VRel] at ra;obtain ⟨t,rfl⟩:=ra
 exact PySem.P.neg_int (Post.same st h (by simp only [VRel];exact ⟨_,rfl⟩))
section intOps
variable {x y:Int}
theorem zjm {op:Operator} {z:Int} (hz:∀ {A:Around} {E:Value->Shared->Prop} {s:Shared} {t u:Tok} {Q:Value->Shared->Prop},Q (.int z s.toks) { s with toks:=s.toks+1 }->wpAny c.M A (binaryOp op (.int x t) (.int y u)) Q E s)
  (h:P (.int z) σ):Op2 c d (binaryOp op) (.int x) (.int y) σ P:=by
 intro A s E ca cb _ st ra rb
 simp only [VRel] at ra rb;obtain ⟨t,rfl⟩:=ra;obtain ⟨u,rfl⟩:=rb
 exact hz (Post.same st h (by simp only [VRel];exact ⟨_,rfl⟩))
theorem z50 (h:P (.int (x+y)) σ):Op2 c d (binaryOp .Add) (.int x) (.int y) σ P:=zjm (fun q=>AutoIntOps.add_0 q) h
theorem z5v (h:P (.int (x - y)) σ):Op2 c d (binaryOp .Sub) (.int x) (.int y) σ P:=zjm (fun q=>AutoIntOps.sub_0 q) h
theorem zwn (hm:IntMulOk x y) (h:P (.int (x * y)) σ):Op2 c d (binaryOp .Mult) (.int x) (.int y) σ P:=zjm (fun q=>AutoIntOps.mul_0 q hm) h
theorem z5y (hy:y≠0) (h:P (.int (x.fmod y)) σ):Op2 c d (binaryOp .Mod) (.int x) (.int y) σ P:=zjm (fun q=>AutoIntOps.mod_1 (by simpa using hy) q) h
theorem z5z (hy:y≠0) (hl:y.natAbs.log2<9000) (h:P (.int (x.fdiv y)) σ):Op2 c d (binaryOp .FloorDiv) (.int x) (.int y) σ P:=
 zjm (fun q=>AutoIntOps.floordiv_1 (by simpa using hy) (by rw [PyProof.noPylong_of_log2 hl];decide) q) h
theorem z0r {n:Nat} (hn:n≠0) (hb:Builtin.Int.intBits x * n<=134217728) (h:P (.int (x ^ n)) σ):Op2 c d (binaryOp .Pow) (.int x) (.int (n:Int)) σ P:=by
 refine zjm (z:=x ^ n) (fun {A E s t u Q} q=>?_) h
 refine AutoIntOpsIf.pow ?_
 have h0:((n:Int) ≥ 0):=by lia
 have h1:((n:Int) == 0)=false:=by simpa using hn
 rw [if_pos h0,h1]
 simp only [Bool.false_eq_true,if_false]
 by_cases h2:(x == 0 || x == 1)=true
 ·rw [if_pos h2]
  have:x ^ n=x:=by
   simp only [Bool.or_eq_true,beq_iff_eq] at h2
   rcases h2 with rfl | rfl
   ·exact Int.zero_pow hn
   ·exact Int.one_pow ..
  rw [this] at q;exact q
 ·rw [if_neg h2]
  by_cases h3:(x == -1)=true
  ·rw [if_pos h3]
   have hx:x=-1:=by simpa using h3
   subst hx
   have:(-1:Int) ^ n=if (n:Int) % 2 == 0 then 1 else -1:=by
    rcases Nat.mod_two_eq_zero_or_one n with hn2 | hn2
    ·have e:n=2 * (n / 2):=by lia
     have:((n:Nat):Int) % 2=0:=by lia
     rw [this,e,Int.pow_mul];exact Int.one_pow ..
    ·have e:n=2 * (n / 2)+1:=by lia
     have:((n:Nat):Int) % 2=1:=by lia
     rw [this,e,Int.pow_succ,Int.pow_mul];exact (by rw [show ((-1:Int) ^ 2)=1 from rfl,Int.one_pow];rfl)
   rw [this] at q
   exact q
  ·rw [if_neg h3,if_neg]
   ·rw [Int.toNat_natCast];exact q
   ·intro hh
    have h4:((Builtin.Int.intBits x:Nat):Int) * (n:Int) > ((bitsLine:Nat):Int):=of_decide_eq_true hh
    have h5:((Builtin.Int.intBits x * n:Nat):Int) > ((bitsLine:Nat):Int):=by rw [Int.natCast_mul];exact h4
    have h6:bitsLine=134217728:=by decide
    lia
end intOps
section cmp
variable {x y:Int}
theorem zfz {op:CmpOp} {b:Bool} (hz:∀ {A:Around} {E:Value->Shared->Prop} {s:Shared} {t u:Tok} {Q:Value->Shared->Prop},Q (.bool b) s->wpAny c.M A (compareOp op (.int x t) (.int y u)) Q E s)
  (h:P (.bool b) σ):Op2 c d (compareOp op) (.int x) (.int y) σ P:=by
 intro A s E ca cb _ st ra rb
 simp only [VRel] at ra rb;obtain ⟨t,rfl⟩:=ra;obtain ⟨u,rfl⟩:=rb
 exact hz (Post.same' st h (by simp only [VRel]))
theorem z7d (h:P (.bool (x == y)) σ):Op2 c d (compareOp .Eq) (.int x) (.int y) σ P:=zfz (fun q=>PySem.P.eq_int q) h
theorem z68 (h:P (.bool (x != y)) σ):Op2 c d (compareOp .NotEq) (.int x) (.int y) σ P:=zfz (fun q=>PySem.P.ne_int q) h
theorem z69 (h:P (.bool (decide (x<y))) σ):Op2 c d (compareOp .Lt) (.int x) (.int y) σ P:=zfz (fun q=>PySem.P.lt_int q) h
theorem z7a (h:P (.bool (decide (x<=y))) σ):Op2 c d (compareOp .LtE) (.int x) (.int y) σ P:=zfz (fun q=>PySem.P.le_int q) h
theorem z7b (h:P (.bool (decide (y<x))) σ):Op2 c d (compareOp .Gt) (.int x) (.int y) σ P:=zfz (fun q=>PySem.P.gt_int q) h
theorem z7c (h:P (.bool (decide (y<=x))) σ):Op2 c d (compareOp .GtE) (.int x) (.int y) σ P:=zfz (fun q=>PySem.P.ge_int q) h
end cmp
theorem ztn (x y:Str):(x.cps.toList == y.cps.toList)=(x == y):=by
 by_cases e:x=y
 ·subst e;simp
 ·have:¬ x.cps.toList=y.cps.toList:=fun q=>e (by obtain ⟨a⟩:=x;obtain ⟨b⟩:=y;exact congrArg Str.mk (Array.toList_inj.mp q))
  rw [beq_eq_false_iff_ne.mpr e,beq_eq_false_iff_ne.mpr this]
theorem zsx {x y:Str} (h:P (.bool (x == y)) σ):Op2 c d (compareOp .Eq) (.str x) (.str y) σ P:=by
 intro A s E ca cb _ st ra rb
 simp only [VRel] at ra rb;obtain ⟨t,rfl⟩:=ra;obtain ⟨u,rfl⟩:=rb
 refine PySem.P.eq_str (Post.same' st h ?_)
 simp only [VRel]
 rw [ztn]
theorem zsv {x y:Str} (h:P (.bool (x != y)) σ):Op2 c d (compareOp .NotEq) (.str x) (.str y) σ P:=by
 intro A s E ca cb _ st ra rb
 simp only [VRel] at ra rb;obtain ⟨t,rfl⟩:=ra;obtain ⟨u,rfl⟩:=rb
 refine PySem.P.ne_str (Post.same' st h ?_)
 simp only [VRel]
 rw [bne,bne,ztn]
theorem zsw {x y:Str} (h:P (.bool (Txt.contains x y)) σ):Op2 c d (compareOp .In) (.str y) (.str x) σ P:=by
 intro A s E ca cb _ st ra rb
 simp only [VRel] at ra rb;obtain ⟨t,rfl⟩:=ra;obtain ⟨u,rfl⟩:=rb
 exact PySem.P.in_str (Post.same' st h (by simp only [VRel];rfl))
theorem zlu {x y:Str} (h:P (.bool (!Txt.contains x y)) σ):Op2 c d (compareOp .NotIn) (.str y) (.str x) σ P:=by
 intro A s E ca cb _ st ra rb
 simp only [VRel] at ra rb;obtain ⟨t,rfl⟩:=ra;obtain ⟨u,rfl⟩:=rb
 exact PySem.P.notIn_str (Post.same' st h (by simp only [VRel];rfl))
theorem z5l {l r':Expr} {op:CmpOp} {pos:Pos} (h:WE c d sc l m σ (fun a σ₁=>WE c d sc r' m σ₁ (fun b σ₂=>Op2 c d (compareOp op) a b σ₂ P) X) X)
  (hm:behindInMarks op r'=false):WE c d sc (.Compare l [op] [r'] pos) m σ P X:=by
 intro env A s E r
 refine wpAny_Compare1 (wpAny_mono (h env A s E r) ?_ fun z1 z2 x=>x) hm
 rintro ca s₁ ⟨a,σ₁,h₁,t₁,hs₁,ra⟩
 refine wpAny_mono (h₁ env A s₁ E (r.step t₁ hs₁)) ?_ fun z1 z2 x=>x
 rintro cb s₂ ⟨b,σ₂,h₂,t₂,hs₂,rb⟩
 exact wpAny_mono (h₂ A s₂ E ca cb r.a hs₂ (t₂.v ra) rb) (fun z1 z2 p=>(p.step t₂).step t₁) fun z1 z2 x=>x
theorem zld (pos:Pos) (left:Value) (op1 op2:CmpOp) (x y:Sem Value):compareChain pos left [op1,op2] [x,y]=(do
  let rv ← holding [left] x
  standAt pos
  let c ← holding [left,rv] (compareOp op1 left rv)
  release [left,rv] [c]
  if ← holding [c,rv] (truthy c) then (do
   let rw' ← holding [rv] y
   standAt pos
   operate [rv,rw'] (compareOp op2 rv rw')) else pure c):=rfl
theorem zri (pos:Pos) (left:Value) (op1 op2:CmpOp) (x y:Sem Value):testChain pos left [op1,op2] [x,y]=(do
  let rv ← holding [left] x
  standAt pos
  let c ← holding [left,rv] (compareOp op1 left rv)
  release [left,rv] [c]
  if ← holding [c,rv] (truthy c) then (do
   let rw' ← holding [rv] y
   standAt pos
   let c ← operate [rv,rw'] (compareOp op2 rv rw')
   holding [c] (truthy c)) else pure false):=rfl
theorem zb3 {M:Model} {A:Around} {E:Value->Shared->Prop} {s:Shared} {vs keep:List Value} {Q:Unit->Shared->Prop} (h:Q () s):wpAny M A (release vs keep) Q E s:=
 fun Γ p z1=>by rw [Sem.wp_release];exact h
theorem zdz {M:Model} {A:Around} {E:Value->Shared->Prop} {s:Shared} {vs:List Value} {t:Sem Value} {Q:Value->Shared->Prop} (h:wpAny M A t Q E s):wpAny M A (operate vs t) Q E s:=
 fun Γ p hΓ=>by rw [Sem.wp_operate];exact h Γ p hΓ
theorem z2l {l r₁ r₂:Expr} {op₁ op₂:CmpOp} {pos:Pos}
  (h:WE c d sc l m σ (fun a σ₁=>WE c d sc r₁ m σ₁ (fun b σ₂=>Op2 c d (compareOp op₁) a b σ₂ (fun v σ₃=>∃ t,v=.bool t/\
   if t=true then WE c d sc r₂ m σ₃ (fun b' σ₄=>Op2 c d (compareOp op₂) b b' σ₄ P) X else P (.bool false) σ₃)) X) X)
  (hm₂:behindInMarks op₂ r₂=false):WE c d sc (.Compare l [op₁,op₂] [r₁,r₂] pos) m σ P X:=by
 intro env A s E r
 show wpAny _ _ (do compareChain pos (← eval l env) [op₁,op₂] [eval r₁ env,markedBehindIn op₂ r₂ (eval r₂ env)]) _ _ _
 rw [markedBehindIn_of_false hm₂]
 refine wpAny_bind (wpAny_mono (h env A s E r) ?_ fun z1 z2 x=>x)
 rintro ca s₁ ⟨a,σ₁,h₁,t₁,hs₁,ra⟩
 rw [zld]
 refine wpAny_bind (wpAny_holding (wpAny_mono (h₁ env A s₁ E (r.step t₁ hs₁)) ?_ fun z1 z2 x=>x))
 rintro cb s₂ ⟨b,σ₂,h₂,t₂,hs₂,rb⟩
 refine wpAny_bind (wpAny_standAt (wpAny_bind (wpAny_holding (wpAny_mono (h₂ A s₂ E ca cb r.a hs₂ (t₂.v ra) rb) ?_ fun z1 z2 x=>x))))
 rintro cv s₃ ⟨v,σ₃,⟨t,rfl,h₃⟩,t₃,hs₃,rv⟩
 simp only [VRel] at rv;subst rv
 refine wpAny_bind (zb3 (wpAny_bind (wpAny_holding (wpAny_truthy_bool ?_))))
 cases t with
 | false=>exact wpAny_pure (((Post.same' hs₃ h₃ (by simp only [VRel])).step t₃).step t₂ |>.step t₁)
 | true=>
  refine wpAny_bind (wpAny_holding (wpAny_mono (h₃ env A s₃ E (((r.step t₁ hs₁).step t₂ hs₂).step t₃ hs₃)) ?_ fun z1 z2 x=>x))
  rintro cb' s₄ ⟨b',σ₄,h₄,t₄,hs₄,rb'⟩
  exact wpAny_bind (wpAny_standAt (zdz (wpAny_mono (h₄ A s₄ E cb cb' r.a hs₄ (t₄.v (t₃.v rb)) rb') (fun z1 z2 p=>(((p.step t₄).step t₃).step t₂).step t₁) fun z1 z2 x=>x)))
theorem zc1 {e:Expr} {P:Bool->Led->Prop} (h:WE c d sc e m σ (fun v σ₁=>∃ t,v=.bool t/\P t σ₁) X)
  (he:∀ env whole,isTrue e env whole=(do let v ← whole;standAt e.pos;holding [v] (truthy v))):WT c d sc e m σ P X:=by
 intro env A s E r
 refine wpAny_isTrue_value (wpAny_mono (h env A s E r) ?_ fun z1 z2 x=>x) (he _ _)
 rintro cv s₁ ⟨v,σ₁,⟨t,rfl,h₁⟩,t₁,hs₁,rv⟩
 simp only [VRel] at rv;subst rv
 exact wpAny_truthy_bool ⟨σ₁,h₁,t₁,hs₁⟩
theorem z5e {e:Expr} {pos:Pos} {P:Bool->Led->Prop} (h:WT c d sc e m σ (fun b σ₁=>P (!b) σ₁) X):WT c d sc (.UnaryOp .Not e pos) m σ P X:=
 fun env A s E r=>wpAny_isTrue_Not (wpAny_mono (h env A s E r) (fun z1 z2=>.imp fun z1 q=>q) fun z1 z2 x=>x)
theorem z2b {op:BoolOp} {es:List Expr} {pos:Pos} {P:Bool->Led->Prop} (h:WTs c d sc op es m σ P X):WT c d sc (.BoolOp op es pos) m σ P X:=
 fun env A s E r=>wpAny_isTrue_BoolOp (h env A s E r)
theorem zoz {P:Bool->Led->Prop} (h:P true σ):WTs c d sc .And [] m σ P X:=fun z1 z2 z3 z4 r=>wpAny_allTrue_And_nil ⟨σ,h,.refl,r.st⟩
theorem zsm {P:Bool->Led->Prop} (h:P false σ):WTs c d sc .Or [] m σ P X:=fun z1 z2 z3 z4 r=>wpAny_allTrue_Or_nil ⟨σ,h,.refl,r.st⟩
theorem z19 {e:Expr} {es:List Expr} {P:Bool->Led->Prop} (h:WT c d sc e m σ (fun b σ₁=>if b=true then WTs c d sc .And es m σ₁ P X else P false σ₁) X):WTs c d sc .And (e::es) m σ P X:=by
 intro env A s E r
 refine wpAny_allTrue_And_cons (wpAny_mono (h env A s E r) ?_ fun z1 z2 x=>x)
 rintro b s₁ ⟨σ₁,h₁,t₁,hs₁⟩
 cases b with
 | true=>exact wpAny_mono (h₁ env A s₁ E (r.step t₁ hs₁)) (fun z1 z2 p=>p.step t₁) fun z1 z2 x=>x
 | false=>exact ⟨σ₁,h₁,t₁,hs₁⟩
theorem z5d {e:Expr} {es:List Expr} {P:Bool->Led->Prop} (h:WT c d sc e m σ (fun b σ₁=>if b=true then P true σ₁ else WTs c d sc .Or es m σ₁ P X) X):WTs c d sc .Or (e::es) m σ P X:=by
 intro env A s E r
 refine wpAny_allTrue_Or_cons (wpAny_mono (h env A s E r) ?_ fun z1 z2 x=>x)
 rintro b s₁ ⟨σ₁,h₁,t₁,hs₁⟩
 cases b with
 | false=>exact wpAny_mono (h₁ env A s₁ E (r.step t₁ hs₁)) (fun z1 z2 p=>p.step t₁) fun z1 z2 x=>x
 | true=>exact ⟨σ₁,h₁,t₁,hs₁⟩
theorem z5f {l r':Expr} {op:CmpOp} {pos:Pos} {P:Bool->Led->Prop} (h:WE c d sc l m σ (fun a σ₁=>WE c d sc r' m σ₁ (fun b σ₂=>Op2 c d (compareOp op) a b σ₂ (fun v σ₃=>∃ t,v=.bool t/\P t σ₃)) X) X)
  (hm:behindInMarks op r'=false):WT c d sc (.Compare l [op] [r'] pos) m σ P X:=by
 intro env A s E r
 refine wpAny_isTrue_Compare1 (wpAny_mono (h env A s E r) ?_ fun z1 z2 x=>x) hm
 rintro ca s₁ ⟨a,σ₁,h₁,t₁,hs₁,ra⟩
 refine wpAny_mono (h₁ env A s₁ E (r.step t₁ hs₁)) ?_ fun z1 z2 x=>x
 rintro cb s₂ ⟨b,σ₂,h₂,t₂,hs₂,rb⟩
 refine wpAny_mono (h₂ A s₂ E ca cb r.a hs₂ (t₂.v ra) rb) ?_ fun z1 z2 x=>x
 rintro cv s₃ ⟨v,σ₃,⟨t,rfl,h₃⟩,t₃,hs₃,rv⟩
 simp only [VRel] at rv;subst rv
 exact wpAny_truthy_bool ⟨σ₃,h₃,(t₁.trans t₂).trans t₃,hs₃⟩
theorem z2a {l r₁ r₂:Expr} {op₁ op₂:CmpOp} {pos:Pos} {P:Bool->Led->Prop}
  (h:WE c d sc l m σ (fun a σ₁=>WE c d sc r₁ m σ₁ (fun b σ₂=>Op2 c d (compareOp op₁) a b σ₂ (fun v σ₃=>∃ t,v=.bool t/\
   if t=true then WE c d sc r₂ m σ₃ (fun b' σ₄=>Op2 c d (compareOp op₂) b b' σ₄ (fun v σ₅=>∃ t,v=.bool t/\P t σ₅)) X else P false σ₃)) X) X)
  (hm₂:behindInMarks op₂ r₂=false):WT c d sc (.Compare l [op₁,op₂] [r₁,r₂] pos) m σ P X:=by
 intro env A s E r
 show wpAny _ _ (do testChain pos (← eval l env) [op₁,op₂] [eval r₁ env,markedBehindIn op₂ r₂ (eval r₂ env)]) _ _ _
 rw [markedBehindIn_of_false hm₂]
 refine wpAny_bind (wpAny_mono (h env A s E r) ?_ fun z1 z2 x=>x)
 rintro ca s₁ ⟨a,σ₁,h₁,t₁,hs₁,ra⟩
 rw [zri]
 refine wpAny_bind (wpAny_holding (wpAny_mono (h₁ env A s₁ E (r.step t₁ hs₁)) ?_ fun z1 z2 x=>x))
 rintro cb s₂ ⟨b,σ₂,h₂,t₂,hs₂,rb⟩
 refine wpAny_bind (wpAny_standAt (wpAny_bind (wpAny_holding (wpAny_mono (h₂ A s₂ E ca cb r.a hs₂ (t₂.v ra) rb) ?_ fun z1 z2 x=>x))))
 rintro cv s₃ ⟨v,σ₃,⟨t,rfl,h₃⟩,t₃,hs₃,rv⟩
 simp only [VRel] at rv;subst rv
 refine wpAny_bind (zb3 (wpAny_bind (wpAny_holding (wpAny_truthy_bool ?_))))
 cases t with
 | false=>exact wpAny_pure ⟨σ₃,h₃,(t₁.trans t₂).trans t₃,hs₃⟩
 | true=>
  refine wpAny_bind (wpAny_holding (wpAny_mono (h₃ env A s₃ E (((r.step t₁ hs₁).step t₂ hs₂).step t₃ hs₃)) ?_ fun z1 z2 x=>x))
  rintro cb' s₄ ⟨b',σ₄,h₄,t₄,hs₄,rb'⟩
  refine wpAny_bind (wpAny_standAt (wpAny_bind (zdz (wpAny_mono (h₄ A s₄ E cb cb' r.a hs₄ (t₄.v (t₃.v rb)) rb') ?_ fun z1 z2 x=>x))))
  rintro cv s₅ ⟨v,σ₅,⟨t,rfl,h₅⟩,t₅,hs₅,rv⟩
  simp only [VRel] at rv;subst rv
  exact wpAny_holding (wpAny_truthy_bool ⟨σ₅,h₅,((((t₁.trans t₂).trans t₃).trans t₄).trans t₅),hs₅⟩)
theorem zy8 {t b o:Expr} {pos:Pos} (h:WT c d sc t m σ (fun k σ₁=>if k=true then WE c d sc b m σ₁ P X else WE c d sc o m σ₁ P X) X):WE c d sc (.IfExp t b o pos) m σ P X:=by
 intro env A s E r
 refine wpAny_IfExp (wpAny_mono (h env A s E r) ?_ fun z1 z2 x=>x)
 rintro k s₁ ⟨σ₁,h₁,t₁,hs₁⟩
 cases k with
 | true=>exact wpAny_mono (h₁ env A s₁ E (r.step t₁ hs₁)) (fun z1 z2 p=>p.step t₁) fun z1 z2 x=>x
 | false=>exact wpAny_mono (h₁ env A s₁ E (r.step t₁ hs₁)) (fun z1 z2 p=>p.step t₁) fun z1 z2 x=>x
theorem zv5 {op:BoolOp} {es:List Expr} {pos:Pos} (h:WEb c d sc op es m σ P X):WE c d sc (.BoolOp op es pos) m σ P X:=
 fun env A s E r=>h env A s E pos r
theorem z2g {op:BoolOp} {e:Expr} (h:WE c d sc e m σ P X):WEb c d sc op [e] m σ P X:=fun env A s E z1 r=>h env A s E r
theorem z2h {e e':Expr} {es:List Expr} (h:WE c d sc e m σ (fun v σ₁=>∃ t,v=.bool t/\if t=true then WEb c d sc .And (e'::es) m σ₁ P X else P (.bool false) σ₁) X):WEb c d sc .And (e::e'::es) m σ P X:=by
 intro env A s E pos r
 show wpAny _ _ (do let v ← eval e env;standAt pos;let t ← holding [v] (truthy v);match BoolOp.And,t with | .And,false | .Or,true=>pure v | _,_=>boolOp pos .And (evalEach (e'::es) env)) _ _ _
 refine wpAny_bind (wpAny_mono (h env A s E r) ?_ fun z1 z2 x=>x)
 rintro cv s₁ ⟨v,σ₁,⟨t,rfl,h₁⟩,t₁,hs₁,rv⟩
 simp only [VRel] at rv;subst rv
 refine wpAny_bind (wpAny_standAt (wpAny_bind (wpAny_holding (wpAny_truthy_bool ?_))))
 cases t with
 | false=>exact wpAny_pure ((Post.same' hs₁ h₁ (by simp only [VRel])).step t₁)
 | true=>exact wpAny_mono (h₁ env A s₁ E pos (r.step t₁ hs₁)) (fun z1 z2 p=>p.step t₁) fun z1 z2 x=>x
theorem z5i {e e':Expr} {es:List Expr} (h:WE c d sc e m σ (fun v σ₁=>∃ t,v=.bool t/\if t=true then P (.bool true) σ₁ else WEb c d sc .Or (e'::es) m σ₁ P X) X):WEb c d sc .Or (e::e'::es) m σ P X:=by
 intro env A s E pos r
 show wpAny _ _ (do let v ← eval e env;standAt pos;let t ← holding [v] (truthy v);match BoolOp.Or,t with | .And,false | .Or,true=>pure v | _,_=>boolOp pos .Or (evalEach (e'::es) env)) _ _ _
 refine wpAny_bind (wpAny_mono (h env A s E r) ?_ fun z1 z2 x=>x)
 rintro cv s₁ ⟨v,σ₁,⟨t,rfl,h₁⟩,t₁,hs₁,rv⟩
 simp only [VRel] at rv;subst rv
 refine wpAny_bind (wpAny_standAt (wpAny_bind (wpAny_holding (wpAny_truthy_bool ?_))))
 cases t with
 | true=>exact wpAny_pure ((Post.same' hs₁ h₁ (by simp only [VRel])).step t₁)
 | false=>exact wpAny_mono (h₁ env A s₁ E pos (r.step t₁ hs₁)) (fun z1 z2 p=>p.step t₁) fun z1 z2 x=>x
theorem z5w {b:Bool} (h:P (.bool (!b)) σ):Op1 c d (unaryOp .Not) (.bool b) σ P:=by
 intro A s E ca _ st ra
 simp only [VRel] at ra;subst ra
 exact PyProof.Rows.not_of (wpAny_truthy_bool (Post.same' st h (by simp only [VRel])))
end Mine
end
section
namespace Mine
open PySem
variable {c:Cx} {d:Nat} {sc:Scope} {m:zaf} {σ:Led} {P:V->Led->Prop} {X:XP}
def Ext (h h':Heap):Prop:=∀ b o,h.get? b=some o->h'.get? b=some o
theorem Ext.refl {h:Heap}:Ext h h:=fun z1 z2 e=>e
theorem Ext.trans {h h' h'':Heap} (x:Ext h h') (y:Ext h' h''):Ext h h'':=fun b o e=>y b o (x b o e)
theorem Ext.push {h:Heap} (o:Obj):Ext h (h.push o):=fun z1 z2 e=>Heap.get?_push_of_some o e
theorem Ext.kept {own:List Addr} {h h':Heap} (x:Ext h h'):Kept own h h':=Kept.of fun b o e z1=>x b o e
theorem Grow.refl {own:List Addr} {h:Heap}:Grow own own h:=fun z1 h=>.inl h
theorem Step.ext {F own:List Addr} {s s':Shared} (x:Ext s.heap s'.heap) (ho:s'.os=s.os) (hg:s'.gens=s.gens):Step F own own s s':=⟨x.kept,fun b o e=>⟨o,x b o e⟩,fun b z1 o e=>x b o e,.refl,ho,hg⟩
theorem PlainSeq.ext {h h':Heap} (x:Ext h h') {T:String} {a:Addr} {cs:List Value} (p:PlainSeq h T a cs):PlainSeq h' T a cs:=let ⟨n,e⟩:=p;⟨n,x _ _ e⟩
theorem ORel.mono {K:Base} {own own':List Addr} {h h':Heap} (k:Ext h h') (g:Grow own own' h) {a:Addr} {o:O} (r:ORel K h own a o):ORel K h' own' a o:=by
 cases o with
 | list vs=>obtain ⟨cs,p,hl,r⟩:=r;exact ⟨cs,p.ext k,hl,VRels.mono k.kept g vs cs r⟩
 | dictI _=>exact DictR.carry r (k a) (k.kept.carries g)
 | dictS _=>exact DictR.carry r (k a) (k.kept.carries g)
 | inst _ _ _=>exact InstR.carry r (fun b z1=>k b) (k.kept.carries g)
 | exc C=>obtain ⟨o,vs,e,q,q2⟩:=r;exact ⟨o,vs,k a _ e,q,q2⟩
theorem ORel.there {K:Base} {own:List Addr} {h:Heap} {a b:Addr} {o:O} (r:ORel K h own a o) (hb:b∈o.addrs a):∃ ob,h.get? b=some ob:=by
 cases o with
 | list vs=>obtain ⟨cs,⟨n,e⟩,_⟩:=r;simp only [O.addrs,List.mem_singleton] at hb;subst hb;exact ⟨_,e⟩
 | dictI _=>simp only [O.addrs,List.mem_singleton] at hb;subst hb;exact DictR.there r
 | dictS _=>simp only [O.addrs,List.mem_singleton] at hb;subst hb;exact DictR.there r
 | inst _ _ _=>
  obtain ⟨o,mA,ho,h1,h2,h3,h4,⟨od,es,ep,hd,q⟩,h6,h7⟩:=r
  simp only [O.addrs,List.mem_cons,List.not_mem_nil,or_false] at hb
  rcases hb with rfl | rfl
  ·exact ⟨o,ho⟩
  ·exact ⟨od,hd⟩
 | exc C=>obtain ⟨o,vs,e,q⟩:=r;simp only [O.addrs,List.mem_singleton] at hb;subst hb;exact ⟨o,e⟩
theorem mem_owned:∀ {σ:Led} {b:Addr},b∈zab σ ↔ ∃ a o,(a,o)∈σ/\b∈o.addrs a
 | [],b=>by simp [zab]
 | (a,o)::r,b=>by
  simp only [zab,List.mem_append,List.mem_cons,mem_owned (σ:=r)]
  constructor
  ·rintro (h | ⟨a',o',h,h'⟩)
   ·exact ⟨a,o,.inl rfl,h⟩
   ·exact ⟨a',o',.inr h,h'⟩
  ·rintro ⟨a',o',h | h,h'⟩
   ·cases h;exact .inl h'
   ·exact .inr ⟨a',o',h,h'⟩
theorem St.there {A:Around} {h:Heap} (st:St c A σ h) {b:Addr} (hb:b∈zab σ):∃ ob,h.get? b=some ob:=by
 obtain ⟨a,o,hm,hb⟩:=mem_owned.mp hb
 exact (st.objs a o hm).there hb
theorem St.new {A:Around} {h:Heap} (st:St c A σ h):h.objs.size∉zab σ:=fun hm=>by
 obtain ⟨ob,e⟩:=st.there hm
 exact Nat.lt_irrefl _ (Heap.lt_size e)
section
variable {A:Around} {h:Heap} {b:Addr} (st:St c A σ h) (hn:h.get? b=none)
include st hn
theorem St.no0:c.k.h0.get? b=none:=by
 cases e:c.k.h0.get? b with
 | none=>rfl
 | some o=>rw [st.keep _ _ e] at hn;cases hn
theorem St.noF:b∉c.F:=fun q=>by obtain ⟨o,e⟩:=st.prot b q;rw [hn] at e;cases e
theorem St.noH:b∉c.H:=fun q=>by obtain ⟨_,o,e⟩:=st.hid b q;rw [hn] at e;cases e
theorem St.noO:b∉zab σ:=fun q=>by obtain ⟨o,e⟩:=st.there q;rw [hn] at e;cases e
theorem St.noS:b∉zah c σ:=fun q=>(List.mem_append.mp q).elim (st.noH hn) (st.noO hn)
theorem St.noL {l:List Env} (hl:A.frames=some l):b∉l.filterMap (·.frame):=fun hL=>by
 obtain ⟨l',hl',hf',_⟩:=st.frames
 rw [hl] at hl';cases hl'
 obtain ⟨_,o,e,_⟩:=hf'.mem hL
 rw [hn] at e;cases e
end
theorem St.newS {A:Around} {h:Heap} (st:St c A σ h):h.objs.size∉zah c σ:=fun hm=>by
 rcases List.mem_append.mp hm with q | q
 ·obtain ⟨_,o,e⟩:=st.hid _ q
  exact Nat.lt_irrefl _ (Heap.lt_size e)
 ·exact st.new q
theorem get?_size (h:Heap):h.get? h.objs.size=none:=by
 cases e:h.get? h.objs.size with
 | none=>rfl
 | some o=>exact absurd (Heap.lt_size e) (Nat.lt_irrefl _)
theorem St.newF {A:Around} {h:Heap} (st:St c A σ h):h.objs.size∉c.F:=fun hm=>by
 obtain ⟨o,e⟩:=st.prot _ hm
 rw [get?_size] at e;cases e
theorem St.ext {A:Around} {h h':Heap} (st:St c A σ h) (x:Ext h h'):St c A σ h':=by
 refine ⟨fun b o e=>x b o (st.keep b o e),st.nodup,st.fresh,fun a o hm=>(st.objs a o hm).mono x .refl,?_,fun b hb=>let ⟨o,e⟩:=st.prot b hb;⟨o,x b o e⟩,fun b hb=>let ⟨q,o,e⟩:=st.hid b hb;⟨q,o,x b o e⟩⟩
 obtain ⟨l,hl,hf,hd⟩:=st.frames
 refine ⟨l,hl,hf.of_keeps fun b o e z1=>⟨o,x b o e,rfl⟩,fun L hL=>⟨(hd L hL).1,(hd L hL).2.1,fun o e=>?_⟩⟩
 obtain ⟨_,o',e',_⟩:=hf.mem hL
 rw [x L o' e'] at e;cases e
 exact (hd L hL).2.2 o e'
theorem St.alloc {A:Around} {h h':Heap} {a:Addr} {o:O} (st:St c A σ h) (x:Ext h h') (hn:∀ b∈o.addrs a,h.get? b=none) (hnd:(o.addrs a).Nodup)
  (hr:ORel c.k h' (zah c ((a,o)::σ)) a o):St c A ((a,o)::σ) h':=by
 have hg:Grow (zab σ) (zab ((a,o)::σ)) h:=fun b hb=>by
  rcases List.mem_append.mp hb with q | q
  ·exact .inr (hn b q)
  ·exact .inl q
 refine ⟨fun b o e=>x b o (st.keep b o e),?_,?_,?_,?_,fun b hb=>let ⟨o,e⟩:=st.prot b hb;⟨o,x b o e⟩,fun b hb=>let ⟨q,o,e⟩:=st.hid b hb;⟨fun z=>hg.notin q e z,o,x b o e⟩⟩
 ·refine List.nodup_append.mpr ⟨hnd,st.nodup,fun b hb b' hb' e=>?_⟩
  subst e
  obtain ⟨ob,e⟩:=st.there hb'
  rw [hn b hb] at e;cases e
 ·intro b hb
  rcases List.mem_append.mp hb with q | q
  ·cases e:c.k.h0.get? b with
   | none=>rfl
   | some ob=>have:=st.keep _ _ e;rw [hn b q] at this;cases this
  ·exact st.fresh b q
 ·intro a' o' hm
  rcases List.mem_cons.mp hm with q | q
  ·cases q;exact hr
  ·exact (st.objs a' o' q).mono x hg.wider
 ·obtain ⟨l,hl,hf,hd⟩:=st.frames
  refine ⟨l,hl,hf.of_keeps fun b o e z1=>⟨o,x b o e,rfl⟩,fun L hL=>⟨fun hm=>?_,(hd L hL).2.1,fun o e=>?_⟩⟩
  ·obtain ⟨_,o',e',_⟩:=hf.mem hL
   exact hg.notin (hd L hL).1 e' hm
  ·obtain ⟨_,o',e',_⟩:=hf.mem hL
   rw [x L o' e'] at e;cases e
   exact (hd L hL).2.2 o e'
theorem Grow.alloc {h:Heap} {a:Addr} {o:O} (hn:∀ b∈o.addrs a,h.get? b=none):Grow (zab σ) (zab ((a,o)::σ)) h:=fun b hb=>by
 rcases List.mem_append.mp hb with q | q
 ·exact .inr (hn b q)
 ·exact .inl q
theorem Post.newSeq {A:Around} {s:Shared} {T:String} {cs:List Value} {vs:List V} {v:V} {n:Nat} (st:St c A σ s.heap) (hl:cs.length<=sizeLine) (r:VRels s.heap (zah c σ) vs cs)
  (hv:∀ h own,VRel h own v (.ref s.heap.objs.size) ↔ ∃ a cs,Value.ref s.heap.objs.size=.ref a/\a∉own/\PlainSeq h T a cs/\cs.length<=sizeLine/\VRels h own vs cs) (h:P v σ) :
  Post c A σ s P (.ref s.heap.objs.size) { s with heap:=s.heap.push { cls:=.type T,data:=.seq cs.toArray n } }:=by
 refine ⟨v,σ,h,.ext (.push _) rfl rfl,st.ext (.push _),(hv _ _).mpr ⟨_,cs,rfl,st.newS,⟨n,Heap.get?_push_size _ rfl⟩,hl,VRels.mono (Ext.push _).kept .refl vs cs r⟩⟩
theorem Post.newTup {A:Around} {s:Shared} {cs:List Value} {vs:List V} {n:Nat} (st:St c A σ s.heap) (hl:cs.length<=sizeLine) (r:VRels s.heap (zah c σ) vs cs) (h:P (.tup vs) σ) :
  Post c A σ s P (.ref s.heap.objs.size) { s with heap:=s.heap.push { cls:=.type "tuple",data:=.seq cs.toArray n } }:=Post.newSeq st hl r (fun z1 z2=>by simp only [VRel]) h
theorem Post.newLst {A:Around} {s:Shared} {cs:List Value} {vs:List V} {n:Nat} (st:St c A σ s.heap) (hl:cs.length<=sizeLine) (r:VRels s.heap (zah c σ) vs cs) (h:P (.lst vs) σ) :
  Post c A σ s P (.ref s.heap.objs.size) { s with heap:=s.heap.push { cls:=.type "list",data:=.seq cs.toArray n } }:=Post.newSeq st hl r (fun z1 z2=>by simp only [VRel]) h
theorem Post.newLoc {A:Around} {s:Shared} {cs:List Value} {vs:List V} {n:Nat} (st:St c A σ s.heap) (hl:cs.length<=sizeLine) (r:VRels s.heap (zah c σ) vs cs) (h:∀ a,a∉zab σ->a∉c.F->P (.ref a) ((a,.list vs)::σ)) :
  Post c A σ s P (.ref s.heap.objs.size) { s with heap:=s.heap.push { cls:=.type "list",data:=.seq cs.toArray n } }:=by
 have hn:∀ b∈(O.list vs).addrs s.heap.objs.size,s.heap.get? b=none:=fun b hb=>by
  simp only [O.addrs,List.mem_singleton] at hb;subst hb;exact get?_size _
 refine ⟨.ref s.heap.objs.size,_,h _ st.new st.newF,⟨(Ext.push _).kept,fun b o e=>⟨o,Ext.push _ b o e⟩,fun b z1 o e=>Ext.push _ b o e,.alloc hn,rfl,rfl⟩,st.alloc (.push _) hn (by simp [O.addrs]) ?_,by simp only [VRel]⟩
 exact ⟨cs,⟨n,Heap.get?_push_size _ rfl⟩,hl,VRels.mono (Ext.push _).kept (Grow.alloc hn).wider vs cs r⟩
theorem VRels.length {h:Heap} {own:List Addr}:∀ {vs:List V} {cs:List Value},VRels h own vs cs->cs.length=vs.length
 | [],_,r=>by simp only [VRels] at r;subst r;rfl
 | v::vs,cs,r=>by
  simp only [VRels] at r
  obtain ⟨c,cs',rfl,_,r⟩:=r
  simp [r.length]
theorem VRels.get {h:Heap} {own:List Addr}:∀ {vs:List V} {cs:List Value} {i:Nat} {v:V},VRels h own vs cs->vs[i]?=some v->∃ cv,cs[i]?=some cv/\VRel h own v cv
 | [],_,_,_,_,e=>by simp at e
 | v::vs,cs,0,_,r,e=>by
  simp only [VRels] at r
  obtain ⟨c,cs',rfl,r1,r⟩:=r
  simp only [List.getElem?_cons_zero,Option.some.injEq] at e;subst e
  exact ⟨c,rfl,r1⟩
 | v::vs,cs,i+1,w,r,e=>by
  simp only [VRels] at r
  obtain ⟨c,cs',rfl,r1,r⟩:=r
  simp only [List.getElem?_cons_succ] at e ⊢
  exact r.get e
theorem VRels.drop {h:Heap} {own:List Addr}:∀ {vs:List V} {cs:List Value} (n:Nat),VRels h own vs cs->VRels h own (vs.drop n) (cs.drop n)
 | _,_,0,r=>r
 | [],cs,n+1,r=>by simp only [VRels] at r;subst r;simp [VRels]
 | v::vs,cs,n+1,r=>by
  simp only [VRels] at r
  obtain ⟨c,cs',rfl,_,r⟩:=r
  exact r.drop n
theorem VRels.take {h:Heap} {own:List Addr}:∀ {vs:List V} {cs:List Value} (n:Nat),VRels h own vs cs->VRels h own (vs.take n) (cs.take n)
 | vs,cs,0,r=>by simp [VRels]
 | [],cs,n+1,r=>by simp only [VRels] at r;subst r;simp [VRels]
 | v::vs,cs,n+1,r=>by
  simp only [VRels] at r
  obtain ⟨c,cs',rfl,r1,r⟩:=r
  simp only [List.take_succ_cons,VRels]
  exact ⟨c,_,rfl,r1,r.take n⟩
theorem VRels.append {h:Heap} {own:List Addr}:∀ {vs ws:List V} {cs ds:List Value},VRels h own vs cs->VRels h own ws ds->VRels h own (vs++ws) (cs++ds)
 | [],ws,cs,ds,r,r'=>by simp only [VRels] at r;subst r;exact r'
 | v::vs,ws,cs,ds,r,r'=>by
  simp only [VRels] at r
  obtain ⟨c,cs',rfl,r1,r⟩:=r
  simp only [List.cons_append,VRels]
  exact ⟨c,_,rfl,r1,r.append r'⟩
theorem VRels.one {h:Heap} {own:List Addr} {v:V} {cv:Value} (r:VRel h own v cv):VRels h own [v] [cv]:=by simp only [VRels];exact ⟨cv,[],rfl,r,rfl⟩
theorem VRels.set {h:Heap} {own:List Addr}:∀ {vs:List V} {cs:List Value} (i:Nat) {v:V} {cv:Value},VRels h own vs cs->VRel h own v cv->VRels h own (vs.set i v) (cs.set i cv)
 | [],cs,i,v,cv,r,_=>by simp only [VRels] at r;subst r;simp [VRels]
 | w::vs,cs,0,v,cv,r,r'=>by
  simp only [VRels] at r
  obtain ⟨c,cs',rfl,r1,r⟩:=r
  simp only [List.set_cons_zero,VRels];exact ⟨cv,cs',rfl,r',r⟩
 | w::vs,cs,i+1,v,cv,r,r'=>by
  simp only [VRels] at r
  obtain ⟨c,cs',rfl,r1,r⟩:=r
  simp only [List.set_cons_succ,VRels];exact ⟨c,_,rfl,r1,r.set i r'⟩
theorem zo2 {P:List V->Led->Prop} (h:P [] σ):WEs c d sc [] m σ P X:=fun env A s E pos r=>⟨rfl,Calls.spliced_nil ⟨[],σ,⟨rfl,h⟩,.refl,r.st,by simp only [VRels]⟩⟩
theorem ze5 {e:Expr} {es:List Expr} {P:List V->Led->Prop} (h:WE c d sc e m σ (fun v σ₁=>WEs c d sc es m σ₁ (fun vs σ₂=>P (v::vs) σ₂) X) X)
  (hstar:∀ env,starEach (e::es) env=(false,eval e env)::starEach es env) (hstars:∀ env,(starEach es env).any (·.1)=false):WEs c d sc (e::es) m σ P X:=by
 intro env A s E pos r
 refine ⟨by rw [hstar];simpa using hstars env,?_⟩
 have hb:backTo pos (starEach (e::es) env)=(false,eval e env)::backTo pos (starEach es env):=by rw [hstar];rfl
 rw [hb]
 refine Calls.spliced_cons (wpAny_mono (h env A s E r) ?_ fun z1 z2 x=>x)
 rintro cv s₁ ⟨v,σ₁,h₁,t₁,hs₁,rv⟩
 refine wpAny_mono (h₁ env A s₁ E pos (r.step t₁ hs₁)).2 ?_ fun z1 z2 x=>x
 rintro cvs s₂ ⟨vs,σ₂,⟨hlen,h₂⟩,t₂,hs₂,rvs⟩
 exact ⟨v::vs,σ₂,⟨by simp [hlen],h₂⟩,t₁.trans t₂,hs₂,by simp only [VRels];exact ⟨cv,cvs,rfl,t₂.v rv,rvs⟩⟩
theorem zy5 {es:List Expr} {k:Nat} {pos:Pos} (h:WEs c d sc es m σ (fun vs σ₁=>P (.tup vs) σ₁) X) (hl:es.length<=1000):WE c d sc (.Tuple es k pos) m σ P X:=by
 intro env A s E r
 refine wpAny_Tuple_spliced (wpAny_mono (h env A s E pos r).2 ?_ fun z1 z2 x=>x)
 rintro cvs s₁ ⟨vs,σ₁,⟨hlen,h₁⟩,t₁,hs₁,rv⟩
 have hsz:cvs.length<=sizeLine:=by rw [rv.length,hlen,sizeLine_eq];(exact Ar.l01 (.le (.v 0) (.k 16777216)) [(.le (.v 0) (.k 1000))] (by kernel_rfl) hl)
 exact ⟨hsz,(Post.newTup hs₁ hsz rv h₁).step t₁⟩
theorem z2k {es:List Expr} {pos:Pos} (h:WEs c d sc es m σ (fun vs σ₁=>P (.lst vs) σ₁) X) (hl:es.length<=1000):WE c d sc (.List es pos) m σ P X:=by
 intro env A s E r
 refine wpAny_List_spliced (wpAny_mono (h env A s E pos r).2 ?_ fun z1 z2 x=>x)
 rintro cvs s₁ ⟨vs,σ₁,⟨hlen,h₁⟩,t₁,hs₁,rv⟩
 have hsz:cvs.length<=sizeLine:=by rw [rv.length,hlen,sizeLine_eq];(exact Ar.l01 (.le (.v 0) (.k 16777216)) [(.le (.v 0) (.k 1000))] (by kernel_rfl) hl)
 exact ⟨hsz,(Post.newLst hs₁ hsz rv h₁).step t₁⟩
theorem zo3 {es:List Expr} {pos:Pos} (h:WEs c d sc es m σ (fun vs σ₁=>∀ a,a∉zab σ₁->a∉c.F->P (.ref a) ((a,.list vs)::σ₁)) X) (hl:es.length<=1000):WE c d sc (.List es pos) m σ P X:=by
 intro env A s E r
 refine wpAny_List_spliced (wpAny_mono (h env A s E pos r).2 ?_ fun z1 z2 x=>x)
 rintro cvs s₁ ⟨vs,σ₁,⟨hlen,h₁⟩,t₁,hs₁,rv⟩
 have hsz:cvs.length<=sizeLine:=by rw [rv.length,hlen,sizeLine_eq];(exact Ar.l01 (.le (.v 0) (.k 16777216)) [(.le (.v 0) (.k 1000))] (by kernel_rfl) hl)
 exact ⟨hsz,(Post.newLoc hs₁ hsz rv h₁).step t₁⟩
theorem zad {σ:Led} {a:Addr} {o:O} (h:σ.lookup a=some o):(a,o)∈σ:=by
 induction σ with
 | nil=>simp at h
 | cons x r ih=>
  obtain ⟨b,o'⟩:=x
  rw [List.lookup_cons] at h
  cases hb:a == b with
  | true=>rw [hb] at h;cases h;rw [beq_iff_eq.mp hb];exact .head _
  | false=>rw [hb] at h;exact .tail _ (ih h)
inductive IsLst (σ:Led):V->List V->Prop
 | lst (vs:List V):IsLst σ (.lst vs) vs
 | ref {a:Addr} {vs:List V}:σ.lookup a=some (.list vs)->IsLst σ (.ref a) vs
inductive z88 (c:Cx) (σ:Led) (h:Heap) (vs:List V) (cv:Value):Prop
 | mk (a:Addr) (cs:List Value):cv=.ref a->PlainSeq h "list" a cs->cs.length<=sizeLine->VRels h (zah c σ) vs cs->z88 c σ h vs cv
theorem IsLst.plain {A:Around} {h:Heap} {v:V} {vs:List V} {cv:Value} (i:IsLst σ v vs) (st:St c A σ h) (r:VRel h (zah c σ) v cv) :
  z88 c σ h vs cv:=by
 cases i with
 | lst=>simp only [VRel] at r;obtain ⟨a,cs,e,_,p,hl,r⟩:=r;exact ⟨a,cs,e,p,hl,r⟩
 | ref hl=>
  simp only [VRel] at r
  obtain ⟨cs,p,hl',r'⟩:=st.objs _ _ (zad hl)
  exact ⟨_,cs,r,p,hl',r'⟩
theorem PlainSeq.isList {h:Heap} {a:Addr} {cs:List Value} (p:PlainSeq h "list" a cs):h.IsList a cs.toArray:=let ⟨n,e⟩:=p;⟨_,e,rfl,n,rfl⟩
theorem PlainSeq.isTuple {h:Heap} {a:Addr} {cs:List Value} (p:PlainSeq h "tuple" a cs):h.IsTuple a cs.toArray:=let ⟨n,e⟩:=p;⟨_,e,rfl,n,rfl⟩
theorem z5j {v i:Expr} {pos:Pos} (h:WE c d sc v m σ (fun a σ₁=>WE c d sc i m σ₁ (fun b σ₂=>Op2 c d (PyProof.Rows.subscriptTail v i) a b σ₂ P) X) X):WE c d sc (.Subscript v i pos) m σ P X:=by
 intro env A s E r
 refine PyProof.Rows.Subscript_ (wpAny_mono (h env A s E r) ?_ fun z1 z2 x=>x)
 rintro ca s₁ ⟨a,σ₁,h₁,t₁,hs₁,ra⟩
 refine wpAny_mono (h₁ env A s₁ E (r.step t₁ hs₁)) ?_ fun z1 z2 x=>x
 rintro cb s₂ ⟨b,σ₂,h₂,t₂,hs₂,rb⟩
 exact wpAny_mono (h₂ A s₂ E ca cb r.a hs₂ (t₂.v ra) rb) (fun z1 z2 p=>(p.step t₂).step t₁) fun z1 z2 x=>x
noncomputable def place (i:Int) (n:Nat):Option Nat:=if 0<=i then (if i<n then some i.toNat else none) else if 0<=i+n then some (i+n).toNat else none
theorem zcm (i:Int) (n:Nat):seqIndex? i n=place i n:=by
 unfold place seqIndex?
 by_cases h:0<=i
 ·have h':¬ i<0:=by (exact Ar.l10 (.no (.ilt (.v 0) (.k 0))) [(.ile (.k 0) (.v 0))] (by kernel_rfl) h)
  by_cases h2:i<n <;> simp [h,h',h2]
 ·have h':i<0:=by (exact Ar.l10 (.ilt (.v 0) (.k 0)) [(.no (.ile (.k 0) (.v 0)))] (by kernel_rfl) h)
  by_cases h2:0<=i+n
  ·have:i+(n:Int)<n:=by (exact Ar.l11 (.ilt (.a (.v 0) (.c (.v 0))) (.c (.v 0))) [(.no (.ile (.k 0) (.v 0)))] (by kernel_rfl) h)
   simp [h,h',h2,this]
  ·simp [h,h',h2]
set_option tactic.hygienic true
theorem zkp {i:Int} {n j:Nat} (h:place i n=some j):j<n/\-(n:Int)<=i/\i<n:=by
 unfold place at h
 split at h
 ·rename_i h0
  split at h
  ·rename_i h1
   cases h
   exact ⟨(Int.toNat_lt h0).mpr h1,Int.le_trans (Int.neg_nonpos_of_nonneg (Int.natCast_nonneg n)) h0,h1⟩
  ·cases h
 ·rename_i h0
  split at h
  ·rename_i h1
   cases h
   have h2:i+n<n:=Ar.l11 (.ilt (.a (.v 0) (.c (.v 0))) (.c (.v 0))) [(.no (.ile (.k 0) (.v 0)))] (by kernel_rfl) h0
   exact ⟨(Int.toNat_lt h1).mpr h2,Ar.l11 (.ile (.g (.c (.v 0))) (.v 0)) [(.ile (.k 0) (.a (.v 0) (.c (.v 0))))] (by kernel_rfl) h1,Ar.l11 (.ilt (.v 0) (.c (.v 0))) [(.no (.ile (.k 0) (.v 0)))] (by kernel_rfl) h0⟩
  ·cases h
set_option tactic.hygienic false
theorem zbk {i:Int} {n:Nat} (h:0<=i) (h2:i<n):place i n=some i.toNat:=by unfold place;rw [if_pos h,if_pos h2]
def zbu (slice:Expr):Prop:=∀ o i,subscripted slice false o i=operate [o,i] (getItem o i)
theorem zsp {v slice:Expr} {lv:V} {vs:List V} {i:Int} {j:Nat} {w:V} (hl:IsLst σ lv vs) (hj:place i vs.length=some j) (hw:vs[j]?=some w) (h:P w σ)
  (hs:zbu slice):Op2 c d (PyProof.Rows.subscriptTail v slice) lv (.int i) σ P:=by
 intro A s E ca cb _ st ra rb
 have hq:=hl.plain st ra
 (try clear rs)
 obtain ⟨a,cs,rfl,p,hsz,rs⟩:=hq
 simp only [VRel] at rb;obtain ⟨u,rfl⟩:=rb
 obtain ⟨cv,hcv,rw'⟩:=rs.get hw
 have hlen:=rs.length
 obtain ⟨hj1,hj2,hj3⟩:=zkp hj
 have hsz':sizeLine=16777216:=by rw [sizeLine_eq]
 refine PyProof.Rows.tail_any (T:="list") p.isList.typeIs list_getitem_lookup ?_ (hs _ _)
 by_cases h0:0<=i
 ·have:j=i.toNat:=by rw [zbk h0 (by exact Ar.l11 (.ilt (.v 0) (.c (.v 0))) [(.ilt (.v 0) (.c (.v 0)))] (by kernel_rfl) hj3)] at hj;exact (Option.some.inj hj).symm
  subst this
  exact wpAny_getItem_list p.isList h0 (by lia) (by simpa using hcv) (Post.same' st h rw')
 ·have:j=(i+vs.length).toNat:=by unfold place at hj;rw [if_neg h0,if_pos (by exact Ar.l11 (.ile (.k 0) (.a (.v 0) (.c (.v 0)))) [(.ile (.g (.c (.v 0))) (.v 0))] (by kernel_rfl) hj2)] at hj;exact (Option.some.inj hj).symm
  subst this
  exact wpAny_getItem_list_neg p.isList (by exact Ar.l10 (.ilt (.v 0) (.k 0)) [(.no (.ile (.k 0) (.v 0)))] (by kernel_rfl) h0) (by simp [hlen];(exact Ar.l11 (.ile (.g (.c (.v 0))) (.v 0)) [(.ile (.g (.c (.v 0))) (.v 0))] (by kernel_rfl) hj2)) (by lia) (by simpa [hlen] using hcv) (Post.same' st h rw')
theorem z24 {v slice:Expr} {lv:V} {vs:List V} {i:Int} {w:V} (hl:IsLst σ lv vs) (h0:0<=i) (hw:vs[i.toNat]?=some w) (h:P w σ)
  (hs:zbu slice):Op2 c d (PyProof.Rows.subscriptTail v slice) lv (.int i) σ P:=
 zsp hl (zbk h0 (by have:=(List.getElem?_eq_some_iff.mp hw).1;lia)) hw h hs
theorem zo7 {v slice:Expr} {vs:List V} {i:Int} {j:Nat} {w:V} (hj:place i vs.length=some j) (hw:vs[j]?=some w) (h:P w σ)
  (hs:zbu slice):Op2 c d (PyProof.Rows.subscriptTail v slice) (.tup vs) (.int i) σ P:=by
 intro A s E ca cb _ st ra rb
 simp only [VRel] at ra rb
 obtain ⟨a,cs,rfl,hno,⟨n,e⟩,hsz,rs⟩:=ra
 obtain ⟨u,rfl⟩:=rb
 obtain ⟨cv,hcv,rw'⟩:=rs.get hw
 have hlen:=rs.length
 obtain ⟨hj1,hj2,hj3⟩:=zkp hj
 have hsz':sizeLine=16777216:=by rw [sizeLine_eq]
 refine PyProof.Rows.tail_any (T:="tuple") ⟨_,e,rfl⟩ F.slot_tuple_getitem.lookup ?_ (hs _ _)
 exact PySem.P.getItem_tuple (items:=cs.toArray) e (by lia) (by lia) (by rw [zcm];simpa [hlen] using hj) (by simpa using hcv) (Post.same' st h rw')
theorem zzl {v slice:Expr} {vs:List V} {i:Int} {w:V} (h0:0<=i) (hw:vs[i.toNat]?=some w) (h:P w σ)
  (hs:zbu slice):Op2 c d (PyProof.Rows.subscriptTail v slice) (.tup vs) (.int i) σ P:=
 zo7 (zbk h0 (by have:=(List.getElem?_eq_some_iff.mp hw).1;lia)) hw h hs
theorem zzm {v slice:Expr} {x:Str} {i:Int} {k:Nat} (h0:0<=i) (hk:x.cps[i.toNat]?=some k) (hn:i<2 ^ 62) (h:P (.str ⟨#[k]⟩) σ)
  (hs:zbu slice):Op2 c d (PyProof.Rows.subscriptTail v slice) (.str x) (.int i) σ P:=by
 intro A s E ca cb _ st ra rb
 simp only [VRel] at ra rb
 obtain ⟨t,rfl⟩:=ra
 obtain ⟨u,rfl⟩:=rb
 refine PyProof.Rows.tail_any (T:="str") (typeIs_str s x t) F.slot_str_getitem.lookup ?_ (hs _ _)
 have hlt:=(Array.getElem?_eq_some_iff.mp hk).1
 refine PySem.P.getItem_str (c:=k) (by simp only [Bool.or_eq_false_iff,decide_eq_false_iff_not];lia) ?_ (Post.same st h (by simp only [VRel];exact ⟨_,rfl⟩))
 rw [zcm,zbk h0 (by unfold Str.length;lia)]
 exact hk
noncomputable def zov (o:Option Int) (dflt n:Nat):Nat:=match o with
 | none=>dflt
 | some i=>(max 0 (min (if i<0 then i+n else i) n)).toNat
noncomputable def slice {α:Type} (lo hi:Option Int) (xs:List α):List α:=(xs.drop (zov lo 0 xs.length)).take (zov hi xs.length xs.length - zov lo 0 xs.length)
theorem zib (lo hi:Option Int) (n:Nat):sliceBounds lo hi none n=(((zov lo 0 n:Nat):Int),((zov hi n n:Nat):Int),1):=by
 have key:∀ (o:Option Int) (dn:Nat),(match o with | none=>(dn:Int) | some i=>max 0 (min (if i<0 then i+(n:Int) else i) n))=((zov o dn n:Nat):Int):=by
  intro o dn
  cases o with
  | none=>rfl
  | some i=>exact (Int.toNat_of_nonneg (Int.le_max_left _ _)).symm
 unfold sliceBounds
 simp only [Option.getD_none,show (1:Int) > 0 by decide,if_true]
 rw [← key lo 0,← key hi n]
 rfl
theorem zhn (cs:List Value) (lo hi:Option Int):slicePick cs.toArray lo hi none=(slice lo hi cs).toArray:=by
 unfold slicePick slice
 rw [zib]
 simp only [sliceRange_one,pick_run,List.size_toArray]
theorem zhk (lo hi:Option Int) (n:Nat):Builtin.Str.strSliceIndices lo hi 1 n=(List.range (zov hi n n - zov lo 0 n)).map (zov lo 0 n+·):=by
 rw [← sliceRange_one]
 have h:=zib lo hi n
 have h1:=congrArg Prod.fst h
 have h2:=congrArg (fun x=>x.2.1) h
 dsimp only at h1 h2
 rw [← h1,← h2]
 rfl
noncomputable def zar (lo hi:Option Int) (x:Str):Str:=⟨(slice lo hi x.cps.toList).toArray⟩
inductive PostO (c:Cx) (A:Around) (σ:Led) (s:Shared) (P:Option Int->Led->Prop) (cv:Value) (s':Shared):Prop
 | mk (o:Option Int) (σ':Led):IsPart cv o->P o σ'->Step c.F (zab σ) (zab σ') s s'->St c A σ' s'.heap->PostO c A σ s P cv s'
theorem PostO.imp {A:Around} {s s':Shared} {P P':Option Int->Led->Prop} {cv:Value} (k:∀ v σ',P v σ'->P' v σ') (x:PostO c A σ s P cv s'):PostO c A σ s P' cv s':=by
 obtain ⟨v,σ',q,hp,t,u⟩:=x
 exact ⟨v,σ',q,k v σ' hp,t,u⟩
def WEo (c:Cx) (d:Nat) (sc:Scope) (e:Option Expr) (m:zaf) (σ:Led) (P:Option Int->Led->Prop) (X:XP):Prop:=
 ∀ (env:Env) (A:Around) (s:Shared) (E:Value->Shared->Prop),RE c d sc m σ X env A s E->
  wpAny c.M A (evalPart e env) (PostO c A σ s P) E s
theorem zy3 {P:Option Int->Led->Prop} (h:P none σ):WEo c d sc none m σ P X:=fun z1 z2 z3 z4 r=>wpAny_pure ⟨none,σ,.none,h,.refl,r.st⟩
theorem zds {e:Expr} {P:Option Int->Led->Prop} (h:WE c d sc e m σ (fun v σ₁=>∃ i,v=.int i/\P (some i) σ₁) X):WEo c d sc (some e) m σ P X:=by
 intro env A s E r
 rw [evalPart_some]
 refine wpAny_mono (h env A s E r) ?_ fun z1 z2 x=>x
 rintro cv s₁ ⟨v,σ₁,⟨i,rfl,h₁⟩,t₁,hs₁,rv⟩
 simp only [VRel] at rv;obtain ⟨t,rfl⟩:=rv
 exact ⟨some i,σ₁,.int i t,h₁,t₁,hs₁⟩
open PyProof.Rows in
theorem zp4 {prog:Program} {w:World} {A:Around} {E:Value->Shared->Prop} {s:Shared} {v:Value} {o:Option Int} {R:Option Int->Shared->Prop} (p:IsPart v o) (r:R o s):wpAny (model prog w) A (Builtin.Slice.slicePartIndex v) R E s:=by
 cases p with
 | none=>exact slicePart_none r
 | int i t=>exact slicePart_int r
theorem zxn (cs:List Value) (a n:Nat):((List.range n).filterMap fun (k:Nat)=>cs.toArray[((a:Int)+(k:Int) * 1).toNat]?)=(cs.drop a).take n:=by
 have h:=pick_run cs.toArray a n
 rw [List.filterMap_map] at h
 rw [← h]
 congr 1
 funext k
 rw [Int.mul_one]
 rfl
open PyProof.Rows in
theorem zor {prog:Program} {w:World} {A:Around} {E:Value->Shared->Prop} {s:Shared} {t sl:Addr} {cs:List Value} {vl vu:Value} {lo hi:Option Int} {a:Nat} {b:Int} {n:Nat} {Q:Value->Shared->Prop} (ht:IsTup s.heap t cs.toArray) (hs:s.heap.IsSliceOf sl vl vu .none) (pl:IsPart vl lo) (pu:IsPart vu hi)
  (e:Builtin.Slice.sliceAdjust lo hi 1 (cs.length:Int)=((a:Int),b)) (en:Builtin.Slice.slicePlaces (a:Int) b 1=n) (hn:n<cs.length) (hz:cs.length<=sizeLine)
  (h:Q (.ref s.heap.objs.size) { s with heap:=s.heap.push { cls:=.type "tuple",data:=.seq ((cs.drop a).take n).toArray } }):wpAny (model prog w) A (getItem (.ref t) (.ref sl)) Q E s:=by
 obtain ⟨os,hos,hcs,hds⟩:=id hs
 have hTs:s.TypeIs (.ref sl) "slice":=⟨os,hos,hcs⟩
 unfold getItem
 try with_reducible refine wpAny_holding ?_
 refine wpAny_bind (wpAny_sequenceKey ht.typeIs (by decide) ?_)
 refine wpAny_bind (wpAny_callSpecial?_slot (name:=Str.ofString "__getitem__") ht.typeIs slot_tuple_getitem
  (wpAny_call_entry slot_tuple_getitem ht.typeIs entry_tuple_getitem ?_ (args_tuple_getitem _ _)))
 show wpAny _ _ (Builtin.Tuple.tupleItemsOf (.ref t) >>= _) _ _ s
 refine wpAny_bind (tupleItemsOf_ ht ?_)
 refine wpAny_bind (wpAny_typeOf hTs ?_)
 rw [if_pos (by decide)]
 unfold Builtin.Slice.sliceApplied Builtin.Slice.sliceFields
 refine wpAny_bind (wpAny_bind (wpAny_bind (wpAny_field hos hds (x:=vl) rfl (wpAny_bind (wpAny_field hos hds (x:=vu) rfl (wpAny_bind (wpAny_field hos hds (x:=.none) rfl (wpAny_pure ?_))))))))
 refine wpAny_bind (slicePart_none ?_)
 show wpAny _ _ (if ((1:Int) == 0)=true then _ else _) _ _ s
 rw [if_neg (by decide)]
 refine wpAny_bind (zp4 pl (wpAny_bind (zp4 pu (wpAny_bind (wpAny_pure ?_)))))
 rw [show Builtin.Slice.sliceAdjust lo hi (none.getD 1) (cs.toArray.size:Int)=((a:Int),b) from e]
 refine wpAny_pure ?_
 show wpAny _ _ (if ((a:Int) == 0 && (1:Int) == 1 && Builtin.Slice.slicePlaces (a:Int) b 1 == cs.length)=true then _ else _) _ _ s
 rw [en,if_neg (fun q=>Nat.ne_of_lt hn (eq_of_beq (Bool.and_eq_true_iff.mp q).2))]
 show wpAny _ _ (Builtin.Tuple.tupleExact ((List.range (Builtin.Slice.slicePlaces (a:Int) b 1)).filterMap fun (k:Nat)=>cs.toArray[((a:Int)+(k:Int) * 1).toNat]?).toArray >>= _) _ _ s
 rw [en,zxn]
 refine wpAny_bind (m:=Builtin.Tuple.tupleExact _) (wpAny_newObj_type (wpAny_pure ⟨_,rfl,wpAny_pure h⟩) ?_)
 show ((cs.drop a).take n).length<=_
 rw [List.length_take]
 exact Nat.le_trans (Nat.min_le_left _ _) (Nat.le_trans (Nat.le_of_lt hn) hz)
inductive zeh (σ:Led) (lo hi:Option Int):V->V->Prop
 | lst {lv:V} {vs:List V}:IsLst σ lv vs->zeh σ lo hi lv (.lst (slice lo hi vs))
 | str {x:Str}:x.length<=sizeLine->zeh σ lo hi (.str x) (.str (zar lo hi x))
 | tup {vs ws:List V} {a:Nat} {b:Int} {n:Nat}:Builtin.Slice.sliceAdjust lo hi 1 (vs.length:Int)=((a:Int),b)->Builtin.Slice.slicePlaces (a:Int) b 1=n->n<vs.length->(vs.drop a).take n=ws->zeh σ lo hi (.tup vs) (.tup ws)
theorem VRels.slice {h:Heap} {own:List Addr} {vs:List V} {cs:List Value} (lo hi:Option Int) (r:VRels h own vs cs):VRels h own (slice lo hi vs) (slice lo hi cs):=by
 unfold Mine.slice
 rw [r.length]
 exact (r.drop _).take _
theorem zay {α:Type} (lo hi:Option Int) (xs:List α):(slice lo hi xs).length<=xs.length:=by
 unfold slice
 rw [List.length_take,List.length_drop]
 exact Nat.le_trans (Nat.min_le_right _ _) (Nat.sub_le _ _)
theorem zrx {l u:Option Int} {l' u':Option (Int × Tok)} {x:Str} (el':l'.map (·.1)=l) (eu':u'.map (·.1)=u):(slicePicked x l' u' none).filterMap (x.cps[·]?)=slice l u x.cps.toList:=by
 unfold slicePicked slice
 rw [el',eu']
 show (Builtin.Str.strSliceIndices l u 1 x.length).filterMap _=_
 rw [zhk,pick_run]
 simp [Str.length]
theorem ztu {l u:Option Int} {l' u':Option (Int × Tok)} {x:Str} (el':l'.map (·.1)=l) (eu':u'.map (·.1)=u) (hfull':(slicePicked x l' u' none).length=x.length):zar l u x=x:=by
 unfold zar
 have hl:(slice l u x.cps.toList)=x.cps.toList:=by
  have h1:(slicePicked x l' u' none).length=zov u x.length x.length - zov l 0 x.length:=by
   unfold slicePicked;rw [el',eu']
   show (Builtin.Str.strSliceIndices l u 1 x.length).length=_
   rw [zhk];simp
  have hc:zov u x.length x.length<=x.length:=by
   cases u with
   | none=>simp [zov]
   | some j=>exact Int.toNat_le.mpr (Int.max_le.mpr ⟨Int.natCast_nonneg _,Int.min_le_right _ _⟩)
  have h2:x.cps.toList.length=x.length:=by simp [Str.length]
  unfold slice
  rw [h2]
  have h3:zov l 0 x.length=0\/x.length=0:=by
   rcases Nat.eq_zero_or_pos x.length with z | z
   ·exact .inr z
   ·exact .inl (Ar.l04 (.eq (.v 0) (.k 0)) [(.lt (.k 0) (.v 1)),(.eq (.v 2) (.v 1)),(.eq (.v 2) (.s (.v 3) (.v 0))),(.le (.v 3) (.v 1))] (by kernel_rfl) z hfull' h1 hc)
  rcases h3 with h3 | h3
  ·rw [h3,List.drop_zero,List.take_of_length_le (by exact Ar.l05 (.le (.v 0) (.s (.v 1) (.k 0))) [(.eq (.v 2) (.v 3)),(.eq (.v 2) (.s (.v 1) (.v 4))),(.eq (.v 0) (.v 3))] (by kernel_rfl) hfull' h1 h2)]
  ·have:x.cps.toList=[]:=List.eq_nil_of_length_eq_zero (by exact Ar.l02 (.eq (.v 0) (.k 0)) [(.eq (.v 0) (.v 1)),(.eq (.v 1) (.k 0))] (by kernel_rfl) h2 h3)
   rw [this];simp
 rw [hl]
theorem zt5 {cl:Value} {l:Option Int} (pl:IsPart cl l):∃ l':Option (Int × Tok),cl=partValue l'/\l'.map (·.1)=l:=by
 cases pl with
 | none=>exact ⟨none,rfl,rfl⟩
 | int i t=>exact ⟨some (i,t),rfl,rfl⟩
section
variable {v:Expr} {lo hi:Option Expr} {p:Pos} {A:Around} {E:Value->Shared->Prop} {l u:Option Int} {cl cu ca:Value} {h:Heap} {g:Shared}
theorem zxa {a:V} {vs:List V} (hl:IsLst σ a vs) (pl:IsPart cl l) (pu:IsPart cu u) (e:g.heap=h.push { cls:=.type "slice",data:=.fields #[cl,cu,.none] }) (st:St c A σ g.heap) (ra:VRel g.heap (zah c σ) a ca) (h₃:P (.lst (slice l u vs)) σ) :
  wpAny c.M A (PyProof.Rows.subscriptTail v (.Slice lo hi none p) ca (.ref h.objs.size)) (Post c A σ g P) E g:=by
 have hq:=hl.plain st ra
 (try clear rs)
 obtain ⟨a,cs,rfl,q,hsz,rs⟩:=hq
 refine PyProof.Rows.tail_any (T:="list") q.isList.typeIs list_getitem_lookup ?_ rfl
 refine wpAny_getItem_list_slice q.isList (e ▸ Heap.IsSliceOf.new ..) pl pu .none (by simp) ?_ (by simpa using hsz)
 rw [zhn]
 exact Post.newLst st (Nat.le_trans (zay ..) hsz) (rs.slice l u) h₃
set_option tactic.hygienic true
theorem zw9 {x:Str} (hxs:x.length<=sizeLine) (pl:IsPart cl l) (pu:IsPart cu u) (e:g.heap=h.push { cls:=.type "slice",data:=.fields #[cl,cu,.none] }) (st:St c A σ g.heap) (ra:VRel g.heap (zah c σ) (.str x) ca) (h₃:P (.str (zar l u x)) σ) :
  wpAny c.M A (PyProof.Rows.subscriptTail v (.Slice lo hi none p) ca (.ref h.objs.size)) (Post c A σ g P) E g:=by
 simp only [VRel] at ra
 obtain ⟨t,rfl⟩:=ra
 refine PyProof.Rows.tail_any (T:="str") (typeIs_str _ x t) F.slot_str_getitem.lookup ?_ rfl
 obtain ⟨l',rfl,el'⟩:=zt5 pl
 obtain ⟨u',rfl,eu'⟩:=zt5 pu
 refine wpAny_getItem_str_slice (l:=l') (u:=u') (st:=none) ⟨_,e ▸ Heap.get?_push_size _ rfl,rfl,rfl⟩ rfl ?_
 have hpick:=zrx (x:=x) el' eu'
 unfold sliceMade
 split
 ·rename_i hfull
  rw [ztu el' eu' (eq_of_beq (Bool.and_eq_true_iff.mp hfull).2)] at h₃
  exact Post.same' st h₃ (by simp only [VRel];exact ⟨_,rfl⟩)
 ·refine ⟨?_,Post.same st h₃ (by simp only [VRel];exact ⟨_,by rw [hpick];rfl⟩)⟩
  rw [hpick]
  show (slice l u x.cps.toList).toArray.size<=_
  have:=zay l u x.cps.toList
  have h2:x.cps.toList.length=x.length:=by simp [Str.length]
  simp only [List.size_toArray]
  exact Nat.le_trans this (h2 ▸ hxs)
set_option tactic.hygienic false
theorem zw8 {vs:List V} {a':Nat} {b:Int} {n:Nat} (e1:Builtin.Slice.sliceAdjust l u 1 (vs.length:Int)=((a':Int),b)) (e2:Builtin.Slice.slicePlaces (a':Int) b 1=n) (e3:n<vs.length) (pl:IsPart cl l) (pu:IsPart cu u) (e:g.heap=h.push { cls:=.type "slice",data:=.fields #[cl,cu,.none] }) (st:St c A σ g.heap) (ra:VRel g.heap (zah c σ) (.tup vs) ca) (h₃:P (.tup ((vs.drop a').take n)) σ) :
  wpAny c.M A (PyProof.Rows.subscriptTail v (.Slice lo hi none p) ca (.ref h.objs.size)) (Post c A σ g P) E g:=by
 simp only [VRel] at ra
 obtain ⟨a,cs,rfl,hao,⟨m,q⟩,hsz,rs⟩:=ra
 refine PyProof.Rows.tail_any (T:="tuple") ⟨_,q,rfl⟩ F.slot_tuple_getitem.lookup ?_ rfl
 rw [← rs.length] at e1 e3
 refine zor ⟨_,q,rfl,_,rfl⟩ (e ▸ Heap.IsSliceOf.new ..) pl pu e1 e2 e3 hsz ?_
 refine Post.newTup st ?_ ((rs.drop _).take _) h₃
 rw [List.length_take]
 exact Nat.le_trans (Nat.min_le_left _ _) (Nat.le_trans (Nat.le_of_lt e3) hsz)
end
theorem zy6 {v:Expr} {lo hi:Option Expr} {p pos:Pos}
  (h:WE c d sc v m σ (fun a σ₁=>WEo c d sc lo m σ₁ (fun l σ₂=>WEo c d sc hi m σ₂ (fun u σ₃=>∃ w,zeh σ₃ l u a w/\P w σ₃) X) X) X) :
  WE c d sc (.Subscript v (.Slice lo hi none p) pos) m σ P X:=by
 intro env A s E r
 refine PyProof.Rows.Subscript_ (wpAny_mono (h env A s E r) ?_ fun z1 z2 x=>x)
 rintro ca s₁ ⟨a,σ₁,h₁,t₁,hs₁,ra⟩
 refine wpAny_Slice (wpAny_mono (h₁ env A s₁ E (r.step t₁ hs₁)) ?_ fun z1 z2 x=>x)
 rintro cl s₂ ⟨l,σ₂,pl,h₂,t₂,hs₂⟩
 refine wpAny_mono (h₂ env A s₂ E ((r.step t₁ hs₁).step t₂ hs₂)) ?_ fun z1 z2 x=>x
 rintro cu s₃ ⟨u,σ₃,pu,⟨w,hw,h₃⟩,t₃,hs₃⟩
 rw [evalPart_none]
 refine wpAny_pure ?_
 have hx:=Ext.push (h:=s₃.heap) { cls:=.type "slice",data:=.fields #[cl,cu,.none] }
 have hs₄:=hs₃.ext hx
 have t₄:Step c.F (zab σ₃) (zab σ₃) s₃ { s₃ with heap:=s₃.heap.push { cls:=.type "slice",data:=.fields #[cl,cu,.none] } }:=.ext hx rfl rfl
 have ra':=t₄.v (t₃.v (t₂.v ra))
 have tt:=((t₁.trans t₂).trans t₃).trans t₄
 refine wpAny_mono ?_ (fun z1 z2 q=>Post.step tt q) fun z1 z2 x=>x
 cases hw with
 | lst hl=>exact zxa hl pl pu rfl hs₄ ra' h₃
 | tup e1 e2 e3 e4=>subst e4;exact zw8 e1 e2 e3 pl pu rfl hs₄ ra' h₃
 | str hx=>exact zw9 hx pl pu rfl hs₄ ra' h₃
theorem zdx {x y:Str} (hsz:x.length+y.length<=sizeLine) (h:P (.str (x++y)) σ):Op2 c d (binaryOp .Add) (.str x) (.str y) σ P:=by
 intro A s E ca cb _ st ra rb
 simp only [VRel] at ra rb;obtain ⟨t,rfl⟩:=ra;obtain ⟨u,rfl⟩:=rb
 refine SB.add (hsz:=hsz) (h:=fun t' k=>Post.same st h (by simp only [VRel];exact ⟨_,rfl⟩))
end Mine
end
section
namespace Mine
open PySem
variable {c:Cx} {d:Nat} {sc:Scope} {m:zaf} {σ:Led} {P:V->Led->Prop} {X:XP} {K:Fl->zaf->Led->Prop}
def But (L:Addr) (h h':Heap):Prop:=∀ b o,b≠L->h.get? b=some o->h'.get? b=some o
theorem But.carries {own:List Addr} {h h':Heap} {L:Addr} {ob:Obj} (hL:h.get? L=some ob) (hq:¬ Frozen ob) (k:But L h h'):Carries own own h h':=fun a o e ha f=>
 ⟨k a o (fun q=>by subst q;rw [e] at hL;cases hL;exact hq f) e,ha⟩
theorem VRel.write {own:List Addr} {h h':Heap} {L:Addr} {ob:Obj} (hL:h.get? L=some ob) (hq:¬ Frozen ob) (k:But L h h') (v:V) (cv:Value) (r:VRel h own v cv):VRel h' own v cv:=r.carry (k.carries hL hq)
theorem VRels.write {own:List Addr} {h h':Heap} {L:Addr} {ob:Obj} (hL:h.get? L=some ob) (hq:¬ Frozen ob) (k:But L h h') (vs:List V) (cs:List Value) (r:VRels h own vs cs):VRels h' own vs cs:=r.carry (k.carries hL hq)
theorem ORel.write {own:List Addr} {h h':Heap} {L:Addr} {ob:Obj} (hL:h.get? L=some ob) (hq:¬ Frozen ob) (k:But L h h') {K:Base} {a:Addr} {o:O} (ha:L∉o.addrs a) (r:ORel K h own a o):ORel K h' own a o:=by
 cases o with
 | list vs=>
  obtain ⟨cs,⟨n,p⟩,hl,r⟩:=r
  exact ⟨cs,⟨n,k a _ (fun q=>ha (by simp [O.addrs,q])) p⟩,hl,VRels.write hL hq k vs cs r⟩
 | dictI _=>exact DictR.carry r (fun ob' e=>k a _ (fun q=>ha (by simp [O.addrs,q])) e) (k.carries hL hq)
 | dictS _=>exact DictR.carry r (fun ob' e=>k a _ (fun q=>ha (by simp [O.addrs,q])) e) (k.carries hL hq)
 | inst _ _ _=>exact InstR.carry r (fun b hb ob' e=>k b _ (fun q=>ha (by subst q;simpa [O.addrs] using hb)) e) (k.carries hL hq)
 | exc C=>obtain ⟨o,vs,e,q1,q2⟩:=r;exact ⟨o,vs,k a _ (fun q=>ha (by simp [O.addrs,q])) e,q1,q2⟩
theorem zby {h h' base:Heap}:∀ {l:List Env},h.FunFrames base l->(∀ L∈l.filterMap (·.frame),∃ o,h'.get? L=some o/\∀ vs,o.data≠.fields vs)->h'.FunFrames base l
 | [],_,_=>trivial
 | env::l,hf,k=>by
  obtain ⟨hk,⟨L,o,hL,hn,ho,hd⟩,hr⟩:=hf
  obtain ⟨o',ho',hd'⟩:=k L (by simp [hL])
  exact ⟨hk,⟨L,o',hL,hn,ho',hd'⟩,zby hr fun L' hL'=>k L' (by rw [List.filterMap_cons,hL];exact List.mem_cons_of_mem _ hL')⟩
theorem St.write {A:Around} {h h':Heap} {L:Addr} {ob ob':Obj} (st:St c A σ h) (hno:L∉zab σ) (h0:c.k.h0.get? L=none) (hL:h.get? L=some ob) (hq:¬ Frozen ob) (k:But L h h')
  (hL':h'.get? L=some ob') (hc:Obj.isDict ob->Obj.isDict ob') (hf:(∀ vs,ob.data≠.fields vs)->∀ vs,ob'.data≠.fields vs):St c A σ h':=by
 refine ⟨fun b o e=>k b o (fun q=>by rw [q,h0] at e;cases e) (st.keep b o e),st.nodup,st.fresh,fun a o hm=>?_,?_,fun b hb=>?_,fun b hb=>?_⟩
 ·exact (st.objs a o hm).write hL hq k fun q=>hno (mem_owned.mpr ⟨a,o,hm,q⟩)
 ·obtain ⟨l,hl,hfr,hd⟩:=st.frames
  refine ⟨l,hl,zby hfr fun L' hL''=>?_,fun L' hL''=>⟨(hd L' hL'').1,(hd L' hL'').2.1,fun o e=>?_⟩⟩
  ·obtain ⟨_,o,ho,hnf⟩:=hfr.mem hL''
   by_cases e:L'=L
   ·subst e;rw [hL] at ho;cases ho;exact ⟨_,hL',hf hnf⟩
   ·exact ⟨o,k L' o e ho,hnf⟩
  ·obtain ⟨_,o',ho,hnf⟩:=hfr.mem hL''
   by_cases q:L'=L
   ·subst q
    rw [hL'] at e;cases e
    exact hc ((hd L' hL'').2.2 _ hL)
   ·rw [k L' o' q ho] at e;cases e;exact (hd L' hL'').2.2 _ ho
 ·obtain ⟨o,e⟩:=st.prot b hb
  by_cases q:b=L
  ·subst q;exact ⟨_,hL'⟩
  ·exact ⟨o,k b o q e⟩
 ·obtain ⟨q1,o,e⟩:=st.hid b hb
  refine ⟨q1,?_⟩
  by_cases q:b=L
  ·subst q;exact ⟨_,hL'⟩
  ·exact ⟨o,k b o q e⟩
theorem zch {o:Obj} {es ep} (h:o.data=.dict es ep):¬ Frozen o:=fun f=>f.notDict ⟨_,_,h⟩
theorem zf9 {o:Obj} {v} (h:o.data=.cell v):¬ Frozen o:=fun f=>by
 rcases f with ⟨xs,n,q⟩ | ⟨⟨xs,q⟩,_⟩ | ⟨_,_,_,q⟩ <;> rw [h] at q <;> cases q
theorem zl0 {h h':Heap} {L:Addr} (hL:∃ o,h'.get? L=some o) (k:But L h h'):∀ b o,h.get? b=some o->∃ o',h'.get? b=some o':=fun b o e=>by
 by_cases q:b=L
 ·exact q ▸ hL
 ·exact ⟨o,k b o q e⟩
theorem Step.write {F own W:List Addr} {s:Shared} {h':Heap} {L:Addr} {t:Nat} (hW:L∈W) (hF:L∉F) (hL:∃ o,h'.get? L=some o) (k:But L s.heap h'):Step F (W++own) (W++own) s { s with heap:=h',toks:=t }:=
 ⟨Kept.of fun b o e hb=>k b o (fun q=>hb (by rw [q];exact List.mem_append_left _ hW)) e,zl0 hL k,fun b hb o e=>k b o (fun q=>hF (q ▸ hb)) e,.refl,rfl,rfl⟩
structure zz8 (c:Cx) (A:Around) (env:Env) (σ:Led) (s:Shared) (m':zaf) (s':Shared):Prop where
 t:Step c.F (places env++zab σ) (places env++zab σ) s s'
 st:St c A σ s'.heap
 er:EnvRel c (zah c σ) env m' s'.heap
inductive zw3 (c:Cx) (A:Around) (env:Env) (σ:Led) (s:Shared) (x:Str) (m':zaf) (s':Shared):Prop
 | mk:zz8 c A env σ s m' s'->(L:Addr)->(h':Heap)->(tk:Nat)->s'={ s with heap:=h',toks:=tk }->But L s.heap h'->((env.kindOf x=some .local/\L=env.locals)\/(env.kindOf x=some .cell/\env.cells.lookup x=some L))->zw3 c A env σ s x m' s'
theorem zcp {A:Around} {s:Shared} {env:Env} {E:Value->Shared->Prop} {x:Str} {v:V} {cv:Value} (ok:zco env) (st:St c A σ s.heap) (er:EnvRel c (zah c σ) env m s.heap) (rv:VRel s.heap (zah c σ) v cv)
  (hk:env.kindOf x=some .local\/env.kindOf x=some .cell) :
  wpAny c.M A (storeName env x cv) (fun z1 s'=>zw3 c A env σ s x ((x,v)::m) s') E s:=by
 obtain ⟨mc,hn,hm⟩:=er.ns
 have hpl:(env.scope.kind == .class || (env.scope.kind == .module && env.locals != env.globals))=false:=by rw [ok.kind];rfl
 rcases hk with hk | hk
 ·refine wpAny_storeName_local hk hn (fun h' hn' hs'=>?_) hpl
  obtain ⟨oL,es,ep,hoL,hdL,_⟩:=id hn
  obtain ⟨oL',es',ep',hoL',hdL',_⟩:=id hn'
  have hq:=zch hdL
  have kb:But env.locals s.heap h':=fun b o hb e=>(hs'.2 b hb).trans e
  refine ⟨⟨.write (by simp [places]) er.lnot.2.2 ⟨_,hoL'⟩ kb,st.write (fun q=>er.lnot.1 (List.mem_append_right _ q)) er.lnot.2.1 hoL hq kb hoL' (fun z1=>⟨_,_,hdL'⟩) (fun z1 vs e=>by rw [hdL'] at e;cases e),?_⟩,env.locals,h',_,rfl,kb,.inl ⟨hk,rfl⟩⟩
  refine ⟨⟨_,hn',fun y w hy hky=>?_⟩,fun y w hy hky=>?_,er.lnot,fun y a ha=>?_,er.apart⟩
  ·by_cases e:y=x
   ·subst e
    rw [List.lookup_cons_self] at hy;cases hy
    exact ⟨cv,by simp,rv.write hoL hq kb⟩
   ·rw [List.lookup_cons,beq_eq_false_iff_ne.mpr e] at hy
    obtain ⟨cw,e1,r⟩:=hm y w hy hky
    exact ⟨cw,by simp [e,e1],r.write hoL hq kb⟩
  ·have hne:y≠x:=fun q=>by subst q;rw [hk] at hky;simp at hky
   rw [List.lookup_cons,beq_eq_false_iff_ne.mpr hne] at hy
   obtain ⟨a,cw,e1,hc,r⟩:=er.cell y w hy hky
   obtain ⟨oc,hoc,hdc⟩:=hc
   exact ⟨a,cw,e1,⟨oc,kb a oc (er.cnot y a (mem_of_lookup e1)).2.1 hoc,hdc⟩,r.write hoL hq kb⟩
  ·obtain ⟨h1,h2,h3,h4,v',oc,hoc,hdc⟩:=er.cnot y a ha
   exact ⟨h1,h2,h3,h4,v',oc,kb a oc h2 hoc,hdc⟩
 ·obtain ⟨a,ha⟩:=ok.cell x (.inl hk)
  obtain ⟨h1,h2,h3,hF,v',hc⟩:=er.cnot x a (mem_of_lookup ha)
  refine wpAny_storeName_cell ok.kind hk ha hc fun h' hc' hs'=>?_
  obtain ⟨oL,hoL,hdL⟩:=id hc
  obtain ⟨oL',hoL',hdL'⟩:=id hc'
  have hq:=zf9 hdL
  have kb:But a s.heap h':=fun b o hb e=>(hs'.2 b hb).trans e
  have hpa:a∈places env:=by simp only [places,List.mem_cons,List.mem_map];exact .inr ⟨(x,a),mem_of_lookup ha,rfl⟩
  refine ⟨⟨.write (t:=s.toks) hpa hF ⟨_,hoL'⟩ kb,st.write (fun q=>h1 (List.mem_append_right _ q)) h3 hoL hq kb hoL' (fun ⟨_,_,e⟩=>by rw [hdL] at e;cases e) (fun z1 vs e=>by rw [hdL'] at e;cases e),?_⟩,a,h',s.toks,rfl,kb,.inr ⟨hk,ha⟩⟩
  refine ⟨⟨mc,hn.sameBut hs' (Ne.symm h2),fun y w hy hky=>?_⟩,fun y w hy hky=>?_,er.lnot,fun y b hb=>?_,er.apart⟩
  ·have hne:y≠x:=fun q=>by subst q;rw [hk] at hky;simp at hky
   rw [List.lookup_cons,beq_eq_false_iff_ne.mpr hne] at hy
   obtain ⟨cw,e1,r⟩:=hm y w hy hky
   exact ⟨cw,e1,r.write hoL hq kb⟩
  ·by_cases e:y=x
   ·subst e
    rw [List.lookup_cons_self] at hy;cases hy
    exact ⟨a,cv,ha,hc',rv.write hoL hq kb⟩
   ·rw [List.lookup_cons,beq_eq_false_iff_ne.mpr e] at hy
    obtain ⟨b,cw,e1,hcb,r⟩:=er.cell y w hy hky
    have hba:b≠a:=fun q=>e (name_of_addr er.apart (mem_of_lookup e1) (q ▸ mem_of_lookup ha))
    obtain ⟨oc,hoc,hdc⟩:=hcb
    exact ⟨b,cw,e1,⟨oc,kb b oc hba hoc,hdc⟩,r.write hoL hq kb⟩
  ·obtain ⟨g1,g2,g3,g4,w,oc,hoc,hdc⟩:=er.cnot y b hb
   by_cases q:b=a
   ·subst q;exact ⟨g1,g2,g3,g4,some cv,hc'⟩
   ·exact ⟨g1,g2,g3,g4,w,oc,kb b oc q hoc,hdc⟩
end Mine
end
section
namespace Mine
open PySem
variable {c:Cx} {d:Nat} {sc:Scope} {m:zaf} {σ:Led} {P:V->Led->Prop} {X:XP} {K:Fl->zaf->Led->Prop}
theorem EnvRel.places {own:List Addr} {env:Env} {h:Heap} (er:EnvRel c own env m h):∀ b∈places env,∀ o,h.get? b=some o->¬ Frozen o:=by
 intro b hb o e
 simp only [Mine.places,List.mem_cons,List.mem_map] at hb
 rcases hb with rfl | ⟨⟨x,a⟩,hm,rfl⟩
 ·obtain ⟨mc,⟨oL,es,ep,ho,hd,_⟩,_⟩:=er.ns
  rw [ho] at e;cases e;exact zch hd
 ·obtain ⟨_,_,_,_,v,oc,hoc,hdc⟩:=er.cnot x a hm
  dsimp only at e
  rw [hoc] at e;cases e;exact zf9 hdc
theorem Step.carriesP {F own own' H:List Addr} {env:Env} {s s':Shared} (er:EnvRel c (H++own) env m s.heap) (t:Step F (places env++own) (places env++own') s s'):Carries (H++own) (H++own') s.heap s'.heap:=by
 intro a o e ha f
 have hn:a∉places env++own:=fun q=>(List.mem_append.mp q).elim (fun q=>er.places a q o e f) fun q=>ha (List.mem_append_right _ q)
 refine ⟨t.kept.exact e hn f.notDict,fun q=>?_⟩
 rcases List.mem_append.mp q with q | q
 ·exact ha (List.mem_append_left _ q)
 ·exact t.grow.notin hn e (List.mem_append_right _ q)
theorem Step.vps {own own' H:List Addr} {env:Env} {s s':Shared} {vs:List V} {cs:List Value} (er:EnvRel c (H++own) env m s.heap) (t:Step c.F (places env++own) (places env++own') s s') (r:VRels s.heap (H++own) vs cs):VRels s'.heap (H++own') vs cs:=r.carry (t.carriesP er)
theorem Step.vp {own own' H:List Addr} {env:Env} {s s':Shared} {v:V} {cv:Value} (er:EnvRel c (H++own) env m s.heap) (t:Step c.F (places env++own) (places env++own') s s') (r:VRel s.heap (H++own) v cv):VRel s'.heap (H++own') v cv:=by
 have:=t.vps er (VRels.one r)
 simp only [VRels] at this
 obtain ⟨c',cs',e,r,_⟩:=this
 cases e;exact r
theorem RS.estep {σ₁:Led} {env:Env} {A:Around} {s s₁:Shared} {E:Value->Shared->Prop} (x:RS c d sc m σ X env A s E) (t:Step c.F (zab σ) (zab σ₁) s s₁) (h:St c A σ₁ s₁.heap):RS c d sc m σ₁ X env A s₁ E:=
 x.step t.wider h (x.er.mono t.kept.wider t.grow.wider)
inductive PostA (c:Cx) (A:Around) (env:Env) (σ:Led) (s:Shared) (K:zaf->Led->Prop) (s':Shared):Prop
 | mk (m':zaf) (σ':Led):K m' σ'->Step c.F (places env++zab σ) (places env++zab σ') s s'->St c A σ' s'.heap->EnvRel c (zah c σ') env m' s'.heap->PostA c A env σ s K s'
theorem PostA.step {A:Around} {env:Env} {σ₁:Led} {s s₁ s':Shared} {K:zaf->Led->Prop} (st:Step c.F (places env++zab σ) (places env++zab σ₁) s s₁) (x:PostA c A env σ₁ s₁ K s'):PostA c A env σ s K s':=by
 obtain ⟨m',σ',hp,st',h,r⟩:=x
 exact ⟨m',σ',hp,st.trans st',h,r⟩
theorem PostA.imp {A:Around} {env:Env} {s s':Shared} {K K':zaf->Led->Prop} (k:∀ m' σ',K m' σ'->K' m' σ') (x:PostA c A env σ s K s'):PostA c A env σ s K' s':=by
 obtain ⟨m',σ',hp,t,u,w⟩:=x
 exact ⟨m',σ',k m' σ' hp,t,u,w⟩
def WA (c:Cx) (d:Nat) (sc:Scope) (t:Expr) (v:V) (m:zaf) (σ:Led) (K:zaf->Led->Prop) (X:XP):Prop:=
 ∀ (env:Env) (A:Around) (s:Shared) (E:Value->Shared->Prop) (cv:Value),RS c d sc m σ X env A s E->VRel s.heap (zah c σ) v cv->wpAny c.M A (assign t env cv) (fun z1 s'=>PostA c A env σ s K s') E s
def WAs (c:Cx) (d:Nat) (sc:Scope) (ts:List Expr) (vs:List V) (m:zaf) (σ:Led) (K:zaf->Led->Prop) (X:XP):Prop:=
 ∀ (env:Env) (A:Around) (s:Shared) (E:Value->Shared->Prop) (cvs:List Value),RS c d sc m σ X env A s E->VRels s.heap (zah c σ) vs cvs->
  (assignEach ts env).length=vs.length/\(assignEach ts env).findIdx? (·.1)=none/\wpAny c.M A (assignInOrder ((assignEach ts env).map (·.2)) cvs) (fun z1 s'=>PostA c A env σ s K s') E s
noncomputable def zk3 (sc:Scope) (x:Str):Bool:=match sc.names.lookup x with
 | some .local | some .cell=>true
 | _=>false
theorem zfu {sc:Scope} {x:Str} (h:zk3 sc x=true):sc.names.lookup x=some .local\/sc.names.lookup x=some .cell:=by
 unfold zk3 at h
 split at h <;> simp_all
theorem zv6 {x:Str} {pos:Pos} {v:V} {K:zaf->Led->Prop} (h:K ((x,v)::m) σ) (hk:zk3 sc x=true):WA c d sc (.Name x pos) v m σ K X:=by
 intro env A s E cv r rv
 refine wpAny_assign_Name (wpAny_mono (zcp r.ok r.st r.er rv (by unfold Env.kindOf;rw [r.sc];exact zfu hk)) ?_ fun z1 z2 x=>x)
 rintro _ s' ⟨⟨t,hs,er⟩,_⟩
 exact ⟨_,σ,h,t,hs,er⟩
theorem z2q {K:zaf->Led->Prop} (h:K m σ):WAs c d sc [] [] m σ K X:=by
 intro env A s E cvs r rv
 simp only [VRels] at rv;subst rv
 exact ⟨rfl,rfl,wpAny_pure ⟨m,σ,h,.refl,r.st,r.er⟩⟩
theorem zzc {t:Expr} {ts:List Expr} {v:V} {vs:List V} {K:zaf->Led->Prop} (h:WA c d sc t v m σ (fun m₁ σ₁=>WAs c d sc ts vs m₁ σ₁ K X) X)
  (hst:∀ env,assignEach (t::ts) env=(false,assign t env)::assignEach ts env) (hlen:∀ env,(assignEach ts env).length=vs.length)
  (hfi:∀ env,(assignEach ts env).findIdx? (·.1)=none):WAs c d sc (t::ts) (v::vs) m σ K X:=by
 intro env A s E cvs r rv
 simp only [VRels] at rv
 obtain ⟨cv,cvs',rfl,r1,rs⟩:=rv
 rw [hst env]
 refine ⟨by simp [hlen env],by simp [List.findIdx?_cons,hfi env],?_⟩
 show wpAny _ _ (do holding cvs' (assign t env cv);assignInOrder ((assignEach ts env).map (·.2)) cvs') _ _ _
 refine wpAny_bind (wpAny_holding (wpAny_mono (h env A s E cv r r1) ?_ fun z1 z2 x=>x))
 rintro _ s₁ ⟨m₁,σ₁,h₁,t₁,hs₁,er₁⟩
 exact wpAny_mono (h₁ env A s₁ E cvs' (r.step t₁ hs₁ er₁) (t₁.vps r.er rs)).2.2 (fun z1 z2 p=>p.step t₁) fun z1 z2 x=>x
theorem zzd (hh:c.k.hd=true) {ts:List Expr} {k:Nat} {pos:Pos} {vs:List V} {K:zaf->Led->Prop} (h:WAs c d sc ts vs m σ K X):WA c d sc (.Tuple ts k pos) (.tup vs) m σ K X:=by
 intro env A s E cv r rv
 simp only [VRel] at rv
 obtain ⟨a,cs,rfl,ha,p,hl,rs⟩:=rv
 have hlen:=rs.length
 obtain ⟨h1,h2,_⟩:=h env A s E cs r rs
 refine wpAny_assign_Tuple (r.a.handled hh) p.isTuple (by simp [h1,hlen]) h2 fun h' hx=>?_
 have hx':Ext s.heap h':=fun b o e=>hx b o (Nat.ne_of_lt (Heap.lt_size e)) e
 have t₁:Step c.F (zab σ) (zab σ) s { s with heap:=h' }:=.ext hx' rfl rfl
 have hs₁:St c A σ h':=r.st.ext hx'
 exact wpAny_mono (h env A { s with heap:=h' } E cs (r.estep t₁ hs₁) (t₁.vs rs)).2.2 (fun z1 z2 p=>p.step t₁.wider) fun z1 z2 x=>x
theorem z2c (h:K .next m σ):WSs c d sc [] m σ K X:=fun env A s E r=>wpAny_execs_nil ⟨.next,m,σ,h,.refl,r.st,r.er,rfl⟩
noncomputable def z79 (K:Fl->zaf->Led->Prop) (N:zaf->Led->Prop):Fl->zaf->Led->Prop
 | .next,m,σ=>N m σ
 | fl,m,σ=>K fl m σ
theorem zyz {st:Stmt} {sts:List Stmt} (h:WS c d sc st m σ (z79 K fun m₁ σ₁=>WSs c d sc sts m₁ σ₁ K X) X):WSs c d sc (st::sts) m σ K X:=by
 intro env A s E r
 refine wpAny_execs_cons (wpAny_mono (h env A s E r) ?_ fun z1 z2 x=>x)
 rintro f s₁ ⟨fl,m₁,σ₁,h₁,t₁,hs₁,er₁,rf⟩
 cases fl with
 | next=>
  cases rf
  exact wpAny_mono (h₁ env A s₁ E (r.step t₁ hs₁ er₁)) (fun z1 z2 p=>p.step t₁) fun z1 z2 x=>x
 | brk=>cases rf;exact ⟨.brk,m₁,σ₁,h₁,t₁,hs₁,er₁,rfl⟩
 | cont=>cases rf;exact ⟨.cont,m₁,σ₁,h₁,t₁,hs₁,er₁,rfl⟩
 | ret v=>obtain ⟨cv,rfl,rv⟩:=rf;exact ⟨.ret v,m₁,σ₁,h₁,t₁,hs₁,er₁,cv,rfl,rv⟩
def Sub (m' m:zaf):Prop:=∀ x v,m'.lookup x=some v->m.lookup x=some v
theorem EnvRel.sub {own:List Addr} {env:Env} {m':zaf} {h:Heap} (x:EnvRel c own env m h) (k:Sub m' m):EnvRel c own env m' h:=by
 obtain ⟨mc,hn,hm⟩:=x.ns
 exact ⟨⟨mc,hn,fun y v hy=>hm y v (k y v hy)⟩,fun y v hy=>x.cell y v (k y v hy),x.lnot,x.cnot,x.apart⟩
theorem zo0 {sts:List Stmt} {m':zaf} (k:Sub m' m) (h:WSs c d sc sts m' σ K X):WSs c d sc sts m σ K X:=
 fun env A s E r=>h env A s E ⟨r.sc,r.ok,r.fr,r.a,r.st,r.er.sub k,r.e⟩
theorem zv1 {e:Expr} {pos:Pos} (h:WE c d sc e m σ (fun v σ₁=>K (.ret v) m σ₁) X):WS c d sc (.Return (some e) pos) m σ K X:=by
 intro env A s E r
 refine wpAny_Return_some (wpAny_mono (h env A s E r.re) ?_ fun z1 z2 x=>x)
 rintro cv s₁ ⟨v,σ₁,h₁,t₁,hs₁,rv⟩
 exact ⟨.ret v,m,σ₁,h₁,t₁.wider,hs₁,r.er.mono t₁.kept.wider t₁.grow.wider,cv,rfl,rv⟩
theorem zja {pos:Pos} (h:K (.ret .none) m σ):WS c d sc (.Return none pos) m σ K X:=
 fun env A s E r=>wpAny_Return_none ⟨.ret .none,m,σ,h,.refl,r.st,r.er,.none,rfl,by simp only [VRel]⟩
theorem z2d {pos:Pos} (h:K .next m σ):WS c d sc (.Pass pos) m σ K X:=fun env A s E r=>wpAny_Pass ⟨.next,m,σ,h,.refl,r.st,r.er,rfl⟩
theorem zo1 {pos:Pos} (h:K .cont m σ):WS c d sc (.Continue pos) m σ K X:=fun env A s E r=>wpAny_Continue ⟨.cont,m,σ,h,.refl,r.st,r.er,rfl⟩
theorem zy1 {pos:Pos} (h:K .brk m σ):WS c d sc (.Break pos) m σ K X:=fun env A s E r=>wpAny_Break ⟨.brk,m,σ,h,.refl,r.st,r.er,rfl⟩
theorem z8b {t:Expr} {b o:List Stmt} {pos:Pos} (h:WT c d sc t m σ (fun k σ₁=>if k=true then WSs c d sc b m σ₁ K X else WSs c d sc o m σ₁ K X) X):WS c d sc (.If t b o pos) m σ K X:=by
 intro env A s E r
 refine wpAny_If (wpAny_mono (h env A s E r.re) ?_ fun z1 z2 x=>x)
 rintro k s₁ ⟨σ₁,h₁,t₁,hs₁⟩
 cases k with
 | true=>exact wpAny_mono (h₁ env A s₁ E (r.estep t₁ hs₁)) (fun z1 z2 p=>p.step t₁.wider) fun z1 z2 x=>x
 | false=>exact wpAny_mono (h₁ env A s₁ E (r.estep t₁ hs₁)) (fun z1 z2 p=>p.step t₁.wider) fun z1 z2 x=>x
theorem z2e {e:Expr} {pos:Pos} (h:WE c d sc e m σ (fun z1 σ₁=>K .next m σ₁) X) (hs:∀ env,swapsWith e none pos.line env=pure false):WS c d sc (.Expr e pos) m σ K X:=by
 intro env A s E r
 refine wpAny_Expr_any (wpAny_mono (h env A s E r.re) ?_ fun z1 z2 x=>x) (by unfold interactive;rw [r.ok.kind];rfl) (hs env)
 rintro cv s₁ ⟨v,σ₁,h₁,t₁,hs₁,rv⟩
 exact ⟨.next,m,σ₁,h₁,t₁.wider,hs₁,r.er.mono t₁.kept.wider t₁.grow.wider,rfl⟩
theorem zm6 {t v:Expr} {pos:Pos} (h:WE c d sc v m σ (fun w σ₁=>WA c d sc t w m σ₁ (fun m' σ'=>K .next m' σ') X) X)
  (hs:∀ env,env.scope=sc->swapsWithSole [t] v pos.line env=pure false) (hw:∀ env,swappedStores [t] v env=pure none)
  (he:∀ env,assignEach [t] env=[(false,assign t env)]):WS c d sc (.Assign [t] v pos) m σ K X:=by
 intro env A s E r
 refine wpAny_Assign_stores (wpAny_mono (h env A s E r.re) ?_ fun z1 z2 x=>x) (hs env r.sc) (hw env)
 rintro cv s₁ ⟨w,σ₁,h₁,t₁,hs₁,rw'⟩
 rw [he env]
 show wpAny _ _ (assign t env cv) _ _ _
 refine wpAny_mono (h₁ env A s₁ E cv (r.estep t₁ hs₁) rw') ?_ fun z1 z2 x=>x
 rintro _ s₂ ⟨m₂,σ₂,h₂,t₂,hs₂,er₂⟩
 exact ⟨.next,m₂,σ₂,h₂,t₁.wider.trans t₂,hs₂,er₂,rfl⟩
end Mine
end
section
namespace Mine
open PySem
variable {c:Cx} {d:Nat} {sc:Scope} {m:zaf} {σ:Led} {P:V->Led->Prop} {X:XP} {K:Fl->zaf->Led->Prop}
noncomputable def NoX:XP:=fun z1 z2=>False
theorem EOkS.nox {A:Around} {env:Env} {s:Shared} {E:Value->Shared->Prop}:EOkS c A NoX env σ s E:=fun z1 z2 z3 z4 h=>h.elim
theorem EOk.nox {A:Around} {own:List Addr} {s:Shared} {E:Value->Shared->Prop}:EOk c A NoX own s E:=fun z1 z2 z3 z4 h=>h.elim
noncomputable def Cx.pro (c:Cx) (G:List Addr):Cx:={ c with F:=G++c.F }
theorem St.pro {A:Around} {h:Heap} {G:List Addr} (st:St c A σ h) (hG:∀ b∈G,b∈zab σ):St (c.pro G) A σ h:=by
 obtain ⟨l,hl,hf,hd⟩:=st.frames
 refine ⟨st.keep,st.nodup,st.fresh,st.objs,⟨l,hl,hf,fun L hL=>⟨(hd L hL).1,fun hm=>?_,(hd L hL).2.2⟩⟩,fun b hb=>?_,st.hid⟩
 ·rcases List.mem_append.mp hm with q | q
  ·exact (hd L hL).1 (hG L q)
  ·exact (hd L hL).2.1 q
 ·rcases List.mem_append.mp hb with q | q
  ·exact st.there (hG b q)
  ·exact st.prot b q
theorem St.unpro {A:Around} {h:Heap} {G:List Addr} (st:St (c.pro G) A σ h):St c A σ h:=by
 obtain ⟨l,hl,hf,hd⟩:=st.frames
 exact ⟨st.keep,st.nodup,st.fresh,st.objs,⟨l,hl,hf,fun L hL=>⟨(hd L hL).1,fun hm=>(hd L hL).2.1 (List.mem_append_right _ hm),(hd L hL).2.2⟩⟩,fun b hb=>st.prot b (List.mem_append_right _ hb),st.hid⟩
theorem EnvRel.pro {env:Env} {h:Heap} {G:List Addr} (er:EnvRel c (zah c σ) env m h) (hG:∀ b∈G,b∈zab σ):EnvRel (c.pro G) (zah c σ) env m h:=by
 refine ⟨er.ns,er.cell,⟨er.lnot.1,er.lnot.2.1,fun hm=>?_⟩,fun x a ha=>?_,er.apart⟩
 ·rcases List.mem_append.mp hm with q | q
  ·exact er.lnot.1 (List.mem_append_right _ (hG _ q))
  ·exact er.lnot.2.2 q
 ·obtain ⟨h1,h2,h3,h4,h5⟩:=er.cnot x a ha
  refine ⟨h1,h2,h3,fun hm=>?_,h5⟩
  rcases List.mem_append.mp hm with q | q
  ·exact h1 (List.mem_append_right _ (hG _ q))
  ·exact h4 q
theorem EnvRel.unpro {own:List Addr} {env:Env} {h:Heap} {G:List Addr} (er:EnvRel (c.pro G) own env m h):EnvRel c own env m h:=by
 refine ⟨er.ns,er.cell,⟨er.lnot.1,er.lnot.2.1,fun hm=>er.lnot.2.2 (List.mem_append_right _ hm)⟩,fun x a ha=>?_,er.apart⟩
 obtain ⟨h1,h2,h3,h4,h5⟩:=er.cnot x a ha
 exact ⟨h1,h2,h3,fun hm=>h4 (List.mem_append_right _ hm),h5⟩
theorem Step.unpro {G own own':List Addr} {s s':Shared} (t:Step (c.pro G).F own own' s s'):Step c.F own own' s s':=⟨t.kept,t.there,fun b hb=>t.prot b (List.mem_append_right _ hb),t.grow,t.os,t.gens⟩
def ButL (wr:List Addr) (h h':Heap):Prop:=∀ b o,b∉wr->h.get? b=some o->h'.get? b=some o
theorem ButL.carries {own wr:List Addr} {h h':Heap} (hq:∀ b∈wr,∀ o,h.get? b=some o->¬ Frozen o) (k:ButL wr h h'):Carries own own h h':=fun a o e ha f=>⟨k a o (fun q=>hq a q o e f) e,ha⟩
theorem VRel.writeL {own wr:List Addr} {h h':Heap} (hq:∀ b∈wr,∀ o,h.get? b=some o->¬ Frozen o) (k:ButL wr h h') (v:V) (cv:Value) (r:VRel h own v cv):VRel h' own v cv:=r.carry (k.carries hq)
theorem VRels.writeL {own wr:List Addr} {h h':Heap} (hq:∀ b∈wr,∀ o,h.get? b=some o->¬ Frozen o) (k:ButL wr h h') (vs:List V) (cs:List Value) (r:VRels h own vs cs):VRels h' own vs cs:=r.carry (k.carries hq)
theorem ORel.writeL {own wr:List Addr} {h h':Heap} (hq:∀ b∈wr,∀ o,h.get? b=some o->¬ Frozen o) (k:ButL wr h h') {K:Base} {a:Addr} {o:O} (ha:∀ b∈o.addrs a,b∉wr) (r:ORel K h own a o):ORel K h' own a o:=by
 cases o with
 | list vs=>
  obtain ⟨cs,⟨n,p⟩,hl,r⟩:=r
  exact ⟨cs,⟨n,k a _ (ha a (by simp [O.addrs])) p⟩,hl,VRels.writeL hq k vs cs r⟩
 | dictI _=>exact DictR.carry r (fun ob' e=>k a _ (ha a (by simp [O.addrs])) e) (k.carries hq)
 | dictS _=>exact DictR.carry r (fun ob' e=>k a _ (ha a (by simp [O.addrs])) e) (k.carries hq)
 | inst _ _ _=>exact InstR.carry r (fun b hb ob' e=>k b _ (ha b (by simpa [O.addrs] using hb)) e) (ButL.carries hq k)
 | exc C=>obtain ⟨o,vs,e,q1,q2⟩:=r;exact ⟨o,vs,k a _ (ha a (by simp [O.addrs])) e,q1,q2⟩
structure z33 (c:Cx) (A:Around) (σ:Led) (wr:List Addr) (h:Heap):Prop where
 notown:∀ b∈wr,b∉zab σ
 base:∀ b∈wr,c.k.h0.get? b=none
 notF:∀ b∈wr,b∉c.F
 notH:∀ b∈wr,b∉c.H
 seq:∀ b∈wr,∀ o,h.get? b=some o->¬ Frozen o
 notfr:∀ l,A.frames=some l->∀ L∈l.filterMap (·.frame),L∉wr
theorem St.writeL {A:Around} {wr:List Addr} {h h':Heap} (st:St c A σ h) (w:z33 c A σ wr h) (k:ButL wr h h'):St c A σ h':=by
 refine ⟨fun b o e=>k b o (fun q=>by rw [w.base b q] at e;cases e) (st.keep b o e),st.nodup,st.fresh,fun a o hm=>?_,?_,fun b hb=>?_,fun b hb=>?_⟩
 ·exact (st.objs a o hm).writeL w.seq k fun b hb q=>w.notown b q (mem_owned.mpr ⟨a,o,hm,hb⟩)
 ·obtain ⟨l,hl,hfr,hd⟩:=st.frames
  refine ⟨l,hl,zby hfr fun L hL=>?_,fun L hL=>⟨(hd L hL).1,(hd L hL).2.1,fun o e=>?_⟩⟩
  ·obtain ⟨_,o,ho,hnf⟩:=hfr.mem hL
   exact ⟨o,k L o (w.notfr l hl L hL) ho,hnf⟩
  ·obtain ⟨_,o',e',_⟩:=hfr.mem hL
   rw [k L o' (w.notfr l hl L hL) e'] at e;cases e
   exact (hd L hL).2.2 o e'
 ·obtain ⟨o,e⟩:=st.prot b hb
  exact ⟨o,k b o (fun q=>w.notF b q hb) e⟩
 ·obtain ⟨q1,o,e⟩:=st.hid b hb
  exact ⟨q1,o,k b o (fun q=>w.notH b q hb) e⟩
theorem EnvRel.writeL {A:Around} {env:Env} {wr:List Addr} {h h':Heap} (er:EnvRel c (zah c σ) env m h) (w:z33 c A σ wr h) (hp:∀ b∈Mine.places env,b∉wr) (k:ButL wr h h'):EnvRel c (zah c σ) env m h':=by
 obtain ⟨mc,hn,hm⟩:=er.ns
 have hL:env.locals∉wr:=hp _ (by simp [Mine.places])
 have hcp:∀ x b,(x,b)∈env.cells->b∉wr:=fun x b hm=>hp b (by simp only [Mine.places,List.mem_cons,List.mem_map];exact .inr ⟨_,hm,rfl⟩)
 have hcell:∀ {a:Addr} {v:Option Value},a∉wr->h.IsCell a v->h'.IsCell a v:=fun {a v} ha hc=>by
  obtain ⟨oc,hoc,hdc⟩:=hc
  exact ⟨oc,k a oc ha hoc,hdc⟩
 refine ⟨⟨mc,?_,fun y v hy hk=>?_⟩,fun y v hy hk=>?_,er.lnot,fun y a ha=>?_,er.apart⟩
 ·obtain ⟨oL,es,ep,ho,r⟩:=hn
  exact ⟨oL,es,ep,k _ _ hL ho,r⟩
 ·obtain ⟨cv,e,r⟩:=hm y v hy hk
  exact ⟨cv,e,VRel.writeL w.seq k v cv r⟩
 ·obtain ⟨a,cv,e,hc,r⟩:=er.cell y v hy hk
  exact ⟨a,cv,e,hcell (hcp _ _ (mem_of_lookup e)) hc,VRel.writeL w.seq k v cv r⟩
 ·obtain ⟨h1,h2,h3,h4,v,h5⟩:=er.cnot y a ha
  exact ⟨h1,h2,h3,h4,v,hcell (hcp _ _ ha) h5⟩
theorem zd2 {o:Obj} (h:∃ xs,o.data=.fields xs) (hc:o.cls≠.type "range"):¬ Frozen o:=fun f=>by
 obtain ⟨ys,hd⟩:=h
 rcases f with ⟨xs,n,q⟩ | ⟨_,q⟩ | ⟨_,_,_,q⟩
 ·rw [hd] at q;cases q
 ·exact hc q
 ·rw [hd] at q;cases q
theorem Step.writeL {F own own' wr:List Addr} {s s':Shared} {h':Heap} {tk:Nat} (t:Step F own own' s s') (hn:∀ b∈wr,s.heap.get? b=none) (hF:∀ b∈wr,b∉F) (k:ButL wr s'.heap h'):Step F own own' s { s' with heap:=h',toks:=tk }:=by
 refine ⟨fun b o e hb=>?_,fun b o e=>(t.there b o e).imp fun o' e'=>k b o' (fun q=>by rw [hn b q] at e;cases e) e',fun b hb o e=>k b o (fun q=>hF b q hb) (t.prot b hb o e),t.grow,t.os,t.gens⟩
 obtain ⟨sl,e',hs⟩:=t.kept b o e hb
 exact ⟨sl,k b _ (fun q=>by rw [hn b q] at e;cases e) e',hs⟩
def IterOwn (o:Obj):Prop:=∀ n,o.cls=.type n->["enumerate","zip","dict_itemiterator","dict_reverseitemiterator","odict_iterator","itertools.zip_longest","itertools.pairwise"].contains n=false
theorem zqm {M:Model} {A:Around} {E:Value->Shared->Prop} {s:Shared} {t:Expr} {I:Addr} {o:Obj} {v:Value} {Q:Unit->Shared->Prop} (ho:s.heap.get? I=some o) (hi:IterOwn o) (h:Q () s) :
  wpAny M A (letOwnedTupleGo t (.ref I) v) Q E s:=by
 have key:∀ es k z,wpAny M A (letOwnedTupleGo (.Tuple es k z) (.ref I) v) Q E s:=fun es k z=>by
  cases v with
  | ref a=>
   refine wpAny_bind (wpAny_load ho ?_)
   cases o with
   | mk cls dict data slots=>
    cases cls with
    | type n=>
     cases data with
     | fields vs=>
      show wpAny M A (if (["enumerate","zip","dict_itemiterator","dict_reverseitemiterator","odict_iterator","itertools.zip_longest","itertools.pairwise"].contains n && vs[0]? == some (rawInt a))=true then _ else pure ()) Q E s
      rw [hi n rfl]
      exact wpAny_pure h
     | _=>exact wpAny_pure h
    | _=>exact wpAny_pure h
  | _=>exact wpAny_pure h
 cases t with
 | Tuple es k z=>exact key es k z
 | List es z=>exact key es 0 z
 | _=>exact wpAny_pure h
structure z7n (c:Cx) (A:Around) (σ:Led) (vs:List V) (hb h:Heap) (I:Addr) (fp wr:List Addr) (Pf:Nat->Value->Prop) (Stf:Nat->Heap->Prop):Prop where
 walks:Walks c.k.prog c.k.w A I fp wr vs.length Pf Stf
 size:vs.length<=sizeLine
 start:Stf 0 h
 ext:Ext hb h
 new:∀ b∈wr,hb.get? b=none
 obj:∀ i h,Stf i h->∀ b∈wr,∃ o,h.get? b=some o/\(∃ xs,o.data=.fields xs)/\o.cls≠.type "range"
 own:∀ i h,Stf i h->∃ o,h.get? I=some o/\IterOwn o
 fp:∀ b∈fp,b∈wr\/b∈c.F\/(b∉zab σ/\∃ o,hb.get? b=some o/\∃ xs n,o.data=.seq xs n)
 elem:∀ h' own',Carries (zah c σ) own' hb h'->∀ i v x,vs[i]?=some v->Pf i x->VRel h' own' v x
inductive z62 (c:Cx) (A:Around) (σ:Led) (vs:List V) (s:Shared) (it:Value) (s':Shared):Prop
 | mk (I:Addr) (fp wr:List Addr) (Pf:Nat->Value->Prop) (Stf:Nat->Heap->Prop):it=.ref I->z7n c A σ vs s.heap s'.heap I fp wr Pf Stf->s'.os=s.os->s'.gens=s.gens->z62 c A σ vs s it s'
def zc6 (c:Cx) (σ:Led) (lv:V) (vs:List V):Prop:=
 ∀ (A:Around) (s:Shared) (E:Value->Shared->Prop) (cv:Value),A.handled=none->St c A σ s.heap->VRel s.heap (zah c σ) lv cv->
  wpAny c.M A (pyIter cv) (z62 c A σ vs s) E s
noncomputable def zv2 (c:Cx) (d:Nat) (sc:Scope) (t:Expr) (body:List Stmt) (K:Fl->zaf->Led->Prop):List V->zaf->Led->Prop
 | [],m,σ=>K .next m σ
 | v::vs,m,σ=>WA c d sc t v m σ (fun m₁ σ₁=>WSs c d sc body m₁ σ₁ (fun fl m₂ σ₂=>match fl with
   | .next | .cont=>zv2 c d sc t body K vs m₂ σ₂
   | .brk=>K .next m₂ σ₂
   | .ret w=>K (.ret w) m₂ σ₂) NoX) NoX
theorem z45 {own:List Addr} {env:Env} {h:Heap} {b:Addr} (er:EnvRel c own env m h) (hn:h.get? b=none):b∉places env:=fun hb=>by
 simp only [places,List.mem_cons,List.mem_map] at hb
 rcases hb with rfl | ⟨⟨x,a⟩,hm,rfl⟩
 ·obtain ⟨mc,⟨oL,es,ep,ho,_⟩,_⟩:=er.ns;rw [hn] at ho;cases ho
 ·obtain ⟨_,_,_,_,v,oc,hoc,_⟩:=er.cnot x a hm;rw [hn] at hoc;cases hoc
set_option genSizeOf false
set_option genInjectivity false
structure FQ where
 c:Cx
 G:List Addr
 d:Nat
 A:Around
 env:Env
 sc:Scope
 m:zaf
 vs:List V
 σ:Led
 s:Shared
 I:Addr
 fp:List Addr
 wr:List Addr
 Pf:Nat->Value->Prop
 Stf:Nat->Heap->Prop
 hi:Heap
noncomputable abbrev FQ.cG (Q:FQ):Cx:=Q.c.pro Q.G
structure FQ.Ok (Q:FQ):Prop where
 hG:∀ b∈Q.G,b∈zab Q.σ
 scp:Q.env.scope=Q.sc
 ok:zco Q.env
 fr:∃ outer,Q.A.frames=some (Q.env::outer)
 a:AOk Q.c.k Q.d Q.A
 st:St Q.c Q.A Q.σ Q.s.heap
 er:EnvRel Q.c (zah Q.c Q.σ) Q.env Q.m Q.s.heap
 it:z7n Q.cG Q.A Q.σ Q.vs Q.s.heap Q.hi Q.I Q.fp Q.wr Q.Pf Q.Stf
structure FQ.Core (Q:FQ) (m':zaf) (σ':Led) (s':Shared):Prop where
 t:Step Q.cG.F (places Q.env++zab Q.σ) (places Q.env++zab σ') Q.s s'
 st:St Q.cG Q.A σ' s'.heap
 er:EnvRel Q.cG (zah Q.c σ') Q.env m' s'.heap
structure FQ.At (Q:FQ) (j:Nat) (σ':Led) (h:Heap):Prop where
 stf:Q.Stf j h
 wo:∀ b∈Q.wr,b∉zab σ'
theorem zb9 {o:Obj} (h:(∃ xs,o.data=.fields xs)\/∃ xs n,o.data=.seq xs n):¬ Obj.isDict o:=by
 rintro ⟨_,_,z⟩
 rcases h with ⟨xs,h⟩ | ⟨xs,n,h⟩ <;> rw [h] at z <;> cases z
section
variable {Q:FQ} {j:Nat} {m' m₅:zaf} {σ' σ₅:Led} {s' s₅:Shared} {h':Heap} {tk:Nat}
theorem FQ.pn (q:Q.Ok):∀ b∈places Q.env,b∉Q.wr:=fun b hb hw=>z45 q.er (q.it.new b hw) hb
theorem FQ.wF (q:Q.Ok):∀ b∈Q.wr,b∉Q.cG.F:=fun b hb=>(q.st.pro q.hG).noF (q.it.new b hb)
theorem FQ.At.wok (q:Q.Ok) (a:Q.At j σ' s'.heap):z33 Q.cG Q.A σ' Q.wr s'.heap:=⟨a.wo,fun b hb=>q.st.no0 (q.it.new b hb),FQ.wF q,fun b hb=>q.st.noH (q.it.new b hb),fun b hb o e=>by
 obtain ⟨o',e',q1,q2⟩:=q.it.obj j _ a.stf b hb
 rw [e] at e';cases e';exact zd2 q1 q2,fun l hl L hL hw=>q.st.noL (q.it.new L hw) hl hL⟩
theorem FQ.Core.turn (q:Q.Ok) (k:Q.Core m' σ' s') (a:Q.At j σ' s'.heap) (hk:ButL Q.wr s'.heap h'):Q.Core m' σ' { s' with heap:=h',toks:=tk }:=
 ⟨k.t.writeL q.it.new (FQ.wF q) hk,k.st.writeL (a.wok q) hk,k.er.writeL (a.wok q) (FQ.pn q) hk⟩
theorem FQ.Core.step (k:Q.Core m' σ' s') (t:Step Q.cG.F (places Q.env++zab σ') (places Q.env++zab σ₅) s' s₅) (st:St Q.cG Q.A σ₅ s₅.heap) (er:EnvRel Q.cG (zah Q.c σ₅) Q.env m₅ s₅.heap):Q.Core m₅ σ₅ s₅:=⟨k.t.trans t,st,er⟩
theorem FQ.At.not (q:Q.Ok) (a:Q.At j σ' h') {b:Addr} (hb:b∈Q.wr):b∉places Q.env++zab σ':=fun z=>(List.mem_append.mp z).elim (fun z=>FQ.pn q b z hb) (a.wo b hb)
theorem FQ.At.step (q:Q.Ok) (k:Q.Core m' σ' s') (a:Q.At j σ' s'.heap) (t:Step Q.cG.F (places Q.env++zab σ') (places Q.env++zab σ₅) s' s₅):Q.At j σ₅ s₅.heap:=by
 refine ⟨q.it.walks.frame _ _ _ a.stf fun b hb o e=>?_,fun b hb hm=>?_⟩
 ·rcases q.it.fp b hb with z | z | ⟨z,ob,hob,hd⟩
  ·obtain ⟨o',e',hx,_⟩:=q.it.obj _ _ a.stf b z
   rw [e] at e';cases e'
   exact t.kept.exact e (a.not q z) (zb9 (.inl hx))
  ·exact t.prot b z o e
  ·have hnot:b∉places Q.env++zab Q.σ:=fun y=>(List.mem_append.mp y).elim (fun y=>q.er.places b y ob hob (.inl hd)) z
   have hob':=k.t.kept.exact hob hnot (zb9 (.inr hd))
   rw [hob'] at e;cases e
   exact t.kept.exact hob' (k.t.grow.notin hnot hob) (zb9 (.inr hd))
 ·obtain ⟨o,e,_⟩:=q.it.obj _ _ a.stf b hb
  exact t.grow.notin (a.not q hb) e (List.mem_append_right _ hm)
theorem FQ.Core.fin (k:Q.Core m' σ' s') {σ₀:Led} {s₀:Shared} (t₁:Step Q.c.F (zab σ₀) (zab Q.σ) s₀ Q.s) {K:Fl->zaf->Led->Prop} {fl:Fl} {f:Flow} (hk:K fl m' σ') (h:z3u s'.heap (zah Q.c σ') fl f):PostS Q.c Q.A Q.env σ₀ s₀ K f s':=
 ⟨fl,m',σ',hk,t₁.wider.trans k.t.unpro,k.st.unpro,k.er.unpro,h⟩
theorem FQ.Core.rs (q:Q.Ok) (k:Q.Core m' σ' s') {E:Value->Shared->Prop}:RS Q.cG Q.d Q.sc m' σ' NoX Q.env Q.A s' E:=⟨q.scp,q.ok,q.fr,q.a,k.st,k.er,.nox⟩
inductive FQ.Inv (Q:FQ) (t:Expr) (body:List Stmt) (K:Fl->zaf->Led->Prop) (n:Nat) (s':Shared):Prop
 | mk (j:Nat) (m':zaf) (σ':Led):n=Q.vs.length+1 - j->j<=Q.vs.length->zv2 Q.cG Q.d Q.sc t body K (Q.vs.drop j) m' σ'->Q.Core m' σ' s'->Q.At j σ' s'.heap->FQ.Inv Q t body K n s'
theorem FQ.next {t:Expr} {body:List Stmt} {K:Fl->zaf->Led->Prop} (hj:j<Q.vs.length) (hW:zv2 Q.cG Q.d Q.sc t body K (Q.vs.drop (j+1)) m' σ') (k:Q.Core m' σ' s') (a:Q.At (j+1) σ' s'.heap):∃ n',n'<Q.vs.length+1 - j/\Q.Inv t body K n' s':=
 ⟨Q.vs.length+1 - (j+1),(by exact Ar.l02 (.lt (.s (.a (.v 0) (.k 1)) (.a (.v 1) (.k 1))) (.s (.a (.v 0) (.k 1)) (.v 1))) [(.lt (.v 1) (.v 0))] (by kernel_rfl) hj),j+1,m',σ',rfl,hj,hW,k,a⟩
theorem FQ.loop (q:Q.Ok) {t:Expr} {body:List Stmt} {K:Fl->zaf->Led->Prop} {R:Result->Shared->Prop} (hR:∀ fl f m' σ' s',K fl m' σ'->Q.Core m' σ' s'->z3u s'.heap (zah Q.c σ') fl f->R (.ok f) s') {n:Nat} (h:Q.Inv t body K n s') :
  codeAny Q.c.M Q.A (.forLoop t (.ref Q.I) body [] Q.env) R s':=by
 refine codeAny_forLoop_any (Q.Inv t body K) (fun n s' h=>?_) n h
 obtain ⟨j,m',σ',rfl,hj,hW,k,a⟩:=h
 by_cases hlt:j<Q.vs.length
 ·refine q.it.walks.item j s' _ _ hlt a.stf fun v h' tk hP hStf' hk=>?_
  have k₃:Q.Core m' σ' { s' with heap:=h',toks:=tk }:=k.turn q a fun b o hb e=>hk b o hb e
  have a₃:Q.At (j+1) σ' h':=⟨hStf',a.wo⟩
  obtain ⟨oI,hoI,hown⟩:=q.it.own _ _ hStf'
  refine zqm (s:={ s' with heap:=h',toks:=tk }) hoI hown ?_
  rw [List.drop_eq_getElem_cons hlt] at hW
  refine wpAny_mono (hW Q.env Q.A _ _ v (k₃.rs q) (q.it.elem h' _ (k₃.t.carriesP q.er) j Q.vs[j] v (List.getElem?_eq_getElem hlt) hP)) ?_ fun z1 z2 x=>x
  rintro _ s₄ ⟨m₄,σ₄,h₄,t₄,hs₄,er₄⟩
  refine wpAny_mono (h₄ Q.env Q.A s₄ _ ((k₃.rs q).step t₄ hs₄ er₄)) ?_ fun z1 z2 x=>x
  rintro f s₅ ⟨fl,m₅,σ₅,h₅,t₅,hs₅,er₅,rf⟩
  have t₃₅:=t₄.trans t₅
  have k₅:=k₃.step t₃₅ hs₅ er₅
  have a₅:=FQ.At.step q k₃ a₃ t₃₅
  cases fl with
  | next=>cases rf;exact FQ.next hlt h₅ k₅ a₅
  | cont=>cases rf;exact FQ.next hlt h₅ k₅ a₅
  | brk=>cases rf;exact hR .next .next m₅ σ₅ s₅ h₅ k₅ rfl
  | ret w=>
   obtain ⟨cv,rfl,rv⟩:=rf
   exact hR (.ret w) (.ret cv) m₅ σ₅ s₅ h₅ k₅ ⟨cv,rfl,rv⟩
 ·have hjl:j=Q.vs.length:=Nat.le_antisymm hj (Nat.not_lt.mp hlt)
  subst hjl
  refine q.it.walks.done s' _ _ a.stf fun h' tk hk=>?_
  rw [List.drop_length] at hW
  exact wpAny_execs_nil (hR .next .next m' σ' _ hW (k.turn q a fun b o hb e=>hk b o hb e) rfl)
end
theorem z5h (hh:c.k.hd=true) {t iter:Expr} {body:List Stmt} {pos:Pos}
  (h:WE c d sc iter m σ (fun lv σ₁=>∃ vs G,(∀ b∈G,b∈zab σ₁)/\zc6 (c.pro G) σ₁ lv vs/\zv2 (c.pro G) d sc t body K vs m σ₁) X)
  (hs:∀ env x,foldedSetIterable iter env x=pure x):WS c d sc (.For t iter body [] pos) m σ K X:=by
 intro env A s E r
 refine wpAny_For (wpAny_mono (h env A s E r.re) ?_ fun z1 z2 x=>x) (hs env)
 rintro cl s₁ ⟨lv,σ₁,⟨vs,G,hG,hI,hL⟩,t₁,hs₁,rl⟩
 have er₁:=r.er.mono t₁.kept.wider t₁.grow.wider
 refine wpAny_mono (hI A s₁ E cl (r.a.handled hh) (hs₁.pro hG) rl) ?_ fun z1 z2 x=>x
 rintro it s₂ ⟨I,fp,wr,Pf,Stf,rfl,ok,hos,hgens⟩
 refine FQ.loop (Q:=⟨c,G,d,A,env,sc,m,vs,σ₁,s₁,I,fp,wr,Pf,Stf,s₂.heap⟩) (K:=K) (n:=vs.length+1) ⟨hG,r.sc,r.ok,r.fr,r.a,hs₁,er₁,ok⟩ (fun fl f m' σ' s' hk k hf=>k.fin t₁ hk hf)
  ⟨0,m,σ₁,rfl,Nat.zero_le _,hL,⟨⟨ok.ext.kept,fun b o e=>⟨o,ok.ext b o e⟩,fun b z1 o e=>ok.ext b o e,.refl,hos,hgens⟩,(hs₁.pro hG).ext ok.ext,(er₁.pro hG).mono ok.ext.kept Grow.refl⟩,ok.start,fun b hb hm=>?_⟩
 obtain ⟨o,e⟩:=hs₁.there hm
 rw [ok.new b hb] at e;cases e
end Mine
end
section
namespace Mine
open PySem
variable {c:Cx} {d:Nat} {sc:Scope} {m:zaf} {σ:Led} {P:V->Led->Prop} {X:XP} {K:Fl->zaf->Led->Prop}
structure Noted (e:Addr) (cls:Value) (base:Heap) (fr:List Addr) (h h':Heap):Prop where
 pre:∃ oe vs,h.get? e=some oe/\oe.cls=cls/\oe.data=.fields vs
 keep:∀ b o,h.get? b=some o->b≠e->(∀ vs,o.data=.fields vs->o.cls=.type "traceback"->base.get? b≠none)->∃ sl,h'.get? b=some { o with slots:=sl }/\(b∉fr->sl=o.slots)
 there:∀ b o,h.get? b=some o->∃ o',h'.get? b=some o'
 exc:ExcAt e cls base h'
section
variable {M:Model} {A:Around} {E:Value->Shared->Prop} {s:Shared}
theorem zqd {base b0:Heap} {env:Env} {outer:List Env} {L e:Addr} {oe:Obj} {vs:Array Value} {head:Value} {had:Bool} {Q:Unit->Shared->Prop}
  (hfr:A.frames=some (env::outer)) (hl:s.heap.FunFrames b0 (env::outer)) (hf:env.frame=some L) (he:s.heap.get? e=some oe) (hen:base.get? e=none) (hbs:∀ b o,base.get? b=some o->∃ o',s.heap.get? b=some o')
  (hC:∃ C,oe.cls=.ref C) (hd:oe.data=.fields vs) (hsz:1<vs.size) (h:∀ h',Noted e oe.cls base ((env::outer).filterMap (·.frame)) s.heap h'->Q () { s with heap:=h' }) :
  wpAny M A (do let a ← frameOf env;let pl ← entryPlaceOf L had;let b ← EntryCells.newEntry head a .none (rawInt L) .none pl;setField (.ref e) 1 b) (fun z1 s'=>wpAny M A (setFlight (.ref e) none) Q E s') E s:=by
 have hene:e∉(env::outer).filterMap (·.frame):=fun hm=>by
  obtain ⟨_,o,ho,hnf⟩:=hl.mem hm
  rw [he] at ho;cases ho;exact hnf vs hd
 refine wpAny_bind (wpAny_frameOf_fun hfr hl hf fun h₁ hs₁=>?_)
 refine wpAny_bind (wpAny_entryPlaceOf fun pl hpl=>?_)
 unfold EntryCells.newEntry newFields
 refine wpAny_bind (wpAny_newObj_type ?_ (hpl.sizeOk5 _ _ _ _ _))
 have h3:(([head,.ref L,.none,rawInt L,.none]++(if pl.isEmpty then List.replicate 6 Value.none else pl)).toArray)[3]?=some (rawInt L):=by simp
 generalize ([head,.ref L,.none,rawInt L,.none]++(if pl.isEmpty then List.replicate 6 Value.none else pl)).toArray=fs at h3 ⊢
 have he₁:h₁.get? e=some oe:=(hs₁.2.1 e hene).trans he
 have hn₁:∀ b o,s.heap.get? b=some o->∃ sl,h₁.get? b=some { o with slots:=sl }/\(b∉(env::outer).filterMap (·.frame)->sl=o.slots):=fun b o q=>by
  obtain ⟨sl,e'⟩:=hs₁.2.2 b o q
  refine ⟨sl,e',fun hb=>?_⟩
  rw [hs₁.2.1 b hb,q] at e'
  exact (congrArg Obj.slots (Option.some.inj e')).symm
 have he₂:=Heap.get?_push_of_some (h:=h₁) { cls:=.type "traceback",dict:=none,data:=.fields fs } he₁
 refine wpAny_setField he₂ hd hsz ?_
 have hTe:h₁.objs.size≠e:=Nat.ne_of_gt (Heap.lt_size he₁)
 have hd₃:=Obj.data_mapFields hd (·.setIfInBounds 1 (Value.ref h₁.objs.size))
 have he₃:=Heap.get?_update_self (Obj.mapFields (·.setIfInBounds 1 (Value.ref h₁.objs.size))) he₂ (Obj.isFreed_of_fields hd₃)
 have hT₃:=(Heap.get?_update_other (h₁.push { cls:=.type "traceback",dict:=none,data:=.fields fs }) (Obj.mapFields (·.setIfInBounds 1 (Value.ref h₁.objs.size))) (Ne.symm hTe)).trans (Heap.get?_push_size h₁ rfl)
 unfold setFlight
 refine wpAny_bind (wpAny_field he₃ hd₃ (x:=.ref h₁.objs.size) (by simp [hsz]) ?_)
 rw [if_pos (show (Value.ref h₁.objs.size != Value.none)=true from by simp)]
 refine wpAny_setField hT₃ rfl (Array.getElem?_eq_some_iff.mp h3).1 (h _ ?_)
 have keep:∀ b o,b≠e->h₁.get? b=some o->(((h₁.push { cls:=.type "traceback",dict:=none,data:=.fields fs }).update e (Obj.mapFields (·.setIfInBounds 1 (Value.ref h₁.objs.size)))).update h₁.objs.size
   (Obj.mapFields (·.setIfInBounds 3 ((none:Option Addr).elim Value.none fun f=>rawInt f)))).get? b=some o:=fun b o hbe hb=>by
  rw [Heap.get?_update_other _ _ (Nat.ne_of_gt (Heap.lt_size hb)),Heap.get?_update_other _ _ (Ne.symm hbe)]
  exact Heap.get?_push_of_some _ hb
 have hE:=(Heap.get?_update_other _ (Obj.mapFields (·.setIfInBounds 3 ((none:Option Addr).elim Value.none fun f=>rawInt f))) hTe).trans he₃
 have hT:=Heap.get?_update_self (Obj.mapFields (·.setIfInBounds 3 ((none:Option Addr).elim Value.none fun f=>rawInt f))) hT₃ (Obj.isFreed_of_fields (Obj.data_mapFields rfl _))
 refine ⟨⟨_,_,he,rfl,hd⟩,fun b o q hb z1=>?_,fun b o q=>?_,hen,hC,_,_,hE,Obj.cls_mapFields _ _,hd₃,.inr ⟨h₁.objs.size,_,_,by simp [hsz],?_,hTe,hT,Obj.cls_mapFields _ _,Obj.data_mapFields rfl _,?_⟩⟩
 ·obtain ⟨sl,q1,q2⟩:=hn₁ b o q
  exact ⟨sl,keep b _ hb q1,q2⟩
 ·by_cases hb:b=e
  ·rw [hb];exact ⟨_,hE⟩
  ·obtain ⟨sl,q1,_⟩:=hn₁ b o q
   exact ⟨_,keep b _ hb q1⟩
 ·cases q:base.get? h₁.objs.size with
  | none=>rfl
  | some o=>
   obtain ⟨o',q1⟩:=hbs _ _ q
   obtain ⟨sl,q2,_⟩:=hn₁ _ _ q1
   exact absurd (Heap.lt_size q2) (Nat.lt_irrefl _)
 ·have:=(Array.getElem?_eq_some_iff.mp h3).1
  simp [this]
theorem zum {base b0:Heap} {env:Env} {outer:List Env} {L e:Addr} {cls:Value} {Q:Unit->Shared->Prop}
  (hfr:A.frames=some (env::outer)) (hl:s.heap.FunFrames b0 (env::outer)) (hf:env.frame=some L) (he:ExcAt e cls base s.heap) (hbs:∀ b o,base.get? b=some o->∃ o',s.heap.get? b=some o')
  (h:∀ h',Noted e cls base ((env::outer).filterMap (·.frame)) s.heap h'->Q () { s with heap:=h' }):wpAny M A (noteFrame (.ref e) env) (fun z1 s'=>wpAny M A (setFlight (.ref e) none) Q E s') E s:=by
 obtain ⟨hen,hC,oe,vs,ho,rfl,hd,h1⟩:=he
 unfold noteFrame
 simp only [hf]
 rcases h1 with h1 | ⟨T,oT,ts,h1,hnT,hTe,hT,hcT,hdT,h3⟩
 ·refine wpAny_bind (wpAny_field ho hd h1 ?_)
  rw [if_neg (by decide)]
  exact zqd hfr hl hf ho hen hbs hC hd (Array.getElem?_eq_some_iff.mp h1).1 h
 ·refine wpAny_bind (wpAny_field ho hd h1 ?_)
  rw [if_pos (show (Value.ref T != Value.none)=true from by simp)]
  refine wpAny_bind (wpAny_field hT hdT h3 ?_)
  rw [if_neg (show ¬ ((Value.none == rawInt L)=true) from by simp [rawInt])]
  refine wpAny_bind (wpAny_setField hT hdT (Array.getElem?_eq_some_iff.mp h3).1 ?_)
  have other:∀ b,b≠T->(s.heap.update T (Obj.mapFields (·.setIfInBounds 3 Value.none))).get? b=s.heap.get? b:=fun b hb=>Heap.get?_update_other _ _ (Ne.symm hb)
  have hT':=Heap.get?_update_self (Obj.mapFields (·.setIfInBounds 3 Value.none)) hT (Obj.isFreed_of_fields (Obj.data_mapFields hdT _))
  have thr:∀ b o,s.heap.get? b=some o->∃ o',(s.heap.update T (Obj.mapFields (·.setIfInBounds 3 Value.none))).get? b=some o':=fun b o q=>by
   by_cases hb:b=T
   ·rw [hb];exact ⟨_,hT'⟩
   ·exact ⟨o,(other b hb).trans q⟩
  refine zqd (base:=base) hfr (hl.of_keeps fun b o hb hnf=>⟨o,(other b fun q=>by rw [q,hT] at hb;cases hb;exact hnf ts hdT).trans hb,rfl⟩) hf ((other e (Ne.symm hTe)).trans ho) hen
   (fun b o q=>(hbs b o q).elim fun o' q'=>thr b o' q') hC hd (Array.getElem?_eq_some_iff.mp h1).1 fun h' x=>h h' ⟨⟨_,_,ho,rfl,hd⟩,fun b o q hb hc=>?_,fun b o q=>(thr b o q).elim fun o' q'=>x.there b o' q',x.exc⟩
  exact x.keep b o ((other b fun r=>by rw [r] at q hc;rw [hT] at q;cases q;exact hc _ hdT hcT hnT).trans q) hb hc
end
section
variable {e:Addr} {cls:Value} {base h h':Heap} {fr:List Addr} {b:Addr} {o:Obj}
theorem Noted.plain (n:Noted e cls base fr h h') (q:h.get? b=some o) (hd:∀ vs,o.data≠.fields vs):∃ sl,h'.get? b=some { o with slots:=sl }/\(b∉fr->sl=o.slots):=by
 obtain ⟨oe,vs,k1,_,k2⟩:=n.pre
 exact n.keep b o q (fun r=>by rw [r,k1] at q;cases q;exact hd vs k2) fun vs k=>absurd k (hd vs)
theorem Noted.old (n:Noted e cls base fr h h') (q:h.get? b=some o) (hb:base.get? b≠none):∃ sl,h'.get? b=some { o with slots:=sl }/\(b∉fr->sl=o.slots):=
 n.keep b o q (fun r=>hb (r ▸ n.exc.new)) fun z1 z2 z3=>hb
theorem Noted.carries {own:List Addr} (n:Noted e cls base fr h h') (hfr:∀ L∈fr,∀ o,h.get? L=some o->Obj.isDict o):Carries own own h h':=fun a o q ha f=>⟨by
 obtain ⟨oe,vs,k1,k0,k2⟩:=n.pre
 obtain ⟨C,rfl⟩:=n.exc.own
 obtain ⟨sl,r1,r2⟩:=n.keep a o q (fun r=>by
   rw [r,k1] at q;cases q
   rcases f with ⟨xs,n,r⟩ | ⟨_,r⟩ | ⟨_,_,_,r⟩
   ·rw [k2] at r;cases r
   ·rw [k0] at r;cases r
   ·rw [k2] at r;cases r) fun vs k k'=>by
   rcases f with ⟨xs,n,r⟩ | ⟨_,r⟩ | ⟨_,_,_,r⟩
   ·rw [k] at r;cases r
   ·rw [k'] at r;exact absurd r (by decide)
   ·rw [k] at r;cases r
 rw [r1,r2 fun hm=>f.notDict (hfr a hm o q)],ha⟩
theorem zca {vs:Array Value} (k:Obj.isDict o):o.data≠.fields vs:=fun r=>by obtain ⟨es,ep,k⟩:=k;rw [k] at r;cases r
theorem St.noted {A:Around} {l:List Env} (st:St c A σ h) (hA:A.frames=some l) (n:Noted e cls base (l.filterMap (·.frame)) h h') (h0b:∀ b o,c.k.h0.get? b=some o->base.get? b≠none):St c A σ h':=by
 obtain ⟨l',hl',hf,hdd⟩:=st.frames
 have:l'=l:=by rw [hA] at hl';exact (Option.some.inj hl').symm
 subst this
 have car:=n.carries (own:=zah c σ) fun L hL=>(hdd L hL).2.2
 have exact_:∀ a∈zab σ,∀ o,h.get? a=some o->(∀ vs,o.data≠.fields vs)->h'.get? a=some o:=fun a ha o q hd=>by
  obtain ⟨sl,r1,r2⟩:=n.plain q hd
  rw [r1,r2 fun hm=>(hdd a hm).1 ha]
 refine ⟨fun b o q=>?_,st.nodup,st.fresh,fun a x hm=>?_,⟨l',hA,hf.of_keeps fun b o q hd=>?_,fun L hL=>⟨(hdd L hL).1,(hdd L hL).2.1,fun o q=>?_⟩⟩,fun b hb=>?_,fun b hb=>⟨(st.hid b hb).1,?_⟩⟩
 ·obtain ⟨sl,r1,r2⟩:=n.old (st.keep b o q) (h0b b o q)
  rw [r1,r2 fun hm=>by rw [(hf.mem hm).1] at q;cases q]
 ·have ha:a∈zab σ:=mem_owned.mpr ⟨a,x,hm,by cases x <;> simp [O.addrs]⟩
  have r:=st.objs a x hm
  cases x with
  | list vs=>
   obtain ⟨cs,⟨k,p⟩,hsz,rs⟩:=r
   exact ⟨cs,⟨k,exact_ a ha _ p fun vs q=>by cases q⟩,hsz,rs.carry car⟩
  | dictI kvs=>
   refine DictR.carry r (fun o q=>exact_ a ha o q ?_) car
   obtain ⟨_,_,⟨o',es,ep,q',_,q2,_⟩,_⟩:=r
   rw [q'] at q;cases q;exact fun vs=>zca ⟨es,ep,q2⟩
  | dictS kvs=>
   refine DictR.carry r (fun o q=>exact_ a ha o q ?_) car
   obtain ⟨_,_,⟨o',es,ep,q',_,q2,_⟩,_⟩:=r
   rw [q'] at q;cases q;exact fun vs=>zca ⟨es,ep,q2⟩
  | inst C d fs=>
   have hd:d∈zab σ:=mem_owned.mpr ⟨a,_,hm,by simp [O.addrs]⟩
   refine InstR.carry r (fun b hb o q=>?_) car
   obtain ⟨o',mA,p1,p2,p3,p4,p5,⟨od,es,ep,p6,p7,_⟩,_⟩:=r
   rcases hb with rfl | rfl
   ·rw [p1] at q;cases q;exact exact_ _ ha _ p1 fun vs z=>by rw [p3] at z;cases z
   ·rw [p6] at q;cases q;exact exact_ _ hd _ p6 fun vs=>zca ⟨es,ep,p7⟩
  | exc C=>
   obtain ⟨o,vs,q,k1,k2⟩:=r
   by_cases hae:a=e
   ·obtain ⟨oe,ws,p1,p2,_⟩:=n.pre
    obtain ⟨oe',ws',p3,p4,p5,_⟩:=n.exc.obj
    rw [hae] at q ⊢
    rw [p1] at q;cases q
    exact ⟨oe',ws',p3,by rw [p4,← p2,k1],p5⟩
   ·obtain ⟨sl,r1,_⟩:=n.keep a o q hae fun vs z1 k=>by rw [k1] at k;cases k
    exact ⟨_,vs,r1,k1,k2⟩
 ·obtain ⟨sl,r1,_⟩:=n.plain q hd
  exact ⟨_,r1,rfl⟩
 ·obtain ⟨_,o',q',_⟩:=hf.mem hL
  have hd:=(hdd L hL).2.2 o' q'
  obtain ⟨sl,r1,_⟩:=n.plain q' fun vs=>zca hd
  rw [r1] at q;cases q;exact hd
 ·obtain ⟨o,q⟩:=st.prot b hb;exact n.there b o q
 ·obtain ⟨_,o,q⟩:=st.hid b hb;exact n.there b o q
theorem Step.noted {own own':List Addr} {s s':Shared} {A:Around} {l:List Env} (t:Step c.F own own' s s') (st:St c A σ s'.heap) (hA:A.frames=some l) (n:Noted e cls s.heap (l.filterMap (·.frame)) s'.heap h'):Step c.F own own' s { s' with heap:=h' }:=by
 obtain ⟨l',hl',hf,hdd⟩:=st.frames
 have:l'=l:=by rw [hA] at hl';exact (Option.some.inj hl').symm
 subst this
 refine ⟨fun b o q hb=>?_,fun b o q=>?_,fun b hb o q=>?_,t.grow,t.os,t.gens⟩
 ·obtain ⟨sl,r1,r2⟩:=t.kept b o q hb
  obtain ⟨sl',r3,r4⟩:=n.old r1 (by rw [q];intro k;cases k)
  refine ⟨sl',r3,fun hd=>?_⟩
  rw [← r2 hd]
  exact r4 fun hm=>hd (Obj.isDict_slots.mp ((hdd b hm).2.2 { o with slots:=sl } r1))
 ·obtain ⟨o',q'⟩:=t.there b o q;exact n.there b o' q'
 ·obtain ⟨sl,r1,r2⟩:=n.old (t.prot b hb o q) (by rw [q];intro k;cases k)
  show h'.get? b=some o
  rw [r1,r2 fun hm=>(hdd b hm).2.1 hb]
end
theorem Step.uncall {W own own':List Addr} {F:List Addr} {s s₁ s₂:Shared} (hext:Ext s.heap s₁.heap) (ho:s₁.os=s.os) (hg:s₁.gens=s.gens) (hn:∀ b∈W,s.heap.get? b=none) (t:Step F (W++own) (W++own') s₁ s₂):Step F own own' s s₂:=by
 refine ⟨fun b o e hb=>?_,fun b o e=>t.there b o (hext b o e),fun b hb o e=>t.prot b hb o (hext b o e),fun b hb=>?_,t.os.trans ho,t.gens.trans hg⟩
 ·exact t.kept b o (hext b o e) fun q=>(List.mem_append.mp q).elim (fun q=>by rw [hn b q] at e;cases e) hb
 ·rcases t.grow b (List.mem_append_right _ hb) with q | q
  ·rcases List.mem_append.mp q with q | q
   ·exact .inr (hn b q)
   ·exact .inl q
  ·refine .inr ?_
   cases e:s.heap.get? b with
   | none=>rfl
   | some o=>rw [hext b o e] at q;cases q
theorem St.undeep {A:Around} {env:Env} {l:List Env} {h:Heap} (hA:A.frames=some l) (st:St c (A.deeper env) σ h):St c A σ h:=by
 obtain ⟨l',hl',hf,hdd⟩:=st.frames
 have:l'=env::l:=by rw [Around.frames_deeper hA] at hl';exact (Option.some.inj hl').symm
 subst this
 refine ⟨st.keep,st.nodup,st.fresh,st.objs,⟨l,hA,hf.2.2,fun L hL=>hdd L ?_⟩,st.prot,st.hid⟩
 obtain ⟨L',_,e,_⟩:=hf.2.1
 rw [List.filterMap_cons,e];exact List.mem_cons_of_mem _ hL
end Mine
end
section
namespace Mine
open PySem
variable {c:Cx} {d:Nat} {sc:Scope} {m:zaf} {σ:Led} {P:V->Led->Prop} {X:XP} {K:Fl->zaf->Led->Prop}
inductive Rtn (σ:Led):V->Led->V->Prop
 | keep {v:V} {σ':Led}:σ'.Sublist σ->Rtn σ v σ' v
 | freeze {a:Addr} {vs:List V} {σ':Led}:σ.lookup a=some (.list vs)->σ'.Sublist (σ.filter fun p=>p.1 != a)->Rtn σ (.ref a) σ' (.lst vs)
theorem zeu {σ σ':Led} (h:σ'.Sublist σ):(zab σ').Sublist (zab σ):=by
 induction h with
 | slnil=>exact .slnil
 | cons x _ ih=>obtain ⟨a,o⟩:=x;exact ih.trans (List.sublist_append_right _ _)
 | cons_cons x _ ih=>obtain ⟨a,o⟩:=x;exact (List.Sublist.refl _).append ih
theorem St.sub {A:Around} {h:Heap} {σ':Led} (st:St c A σ h) (k:σ'.Sublist σ):St c A σ' h:=by
 have ko:=zeu k
 obtain ⟨l,hl,hf,hd⟩:=st.frames
 refine ⟨st.keep,ko.nodup st.nodup,fun a ha=>st.fresh a (ko.subset ha),fun a o hm=>?_,⟨l,hl,hf,fun L hL=>⟨fun q=>(hd L hL).1 (ko.subset q),(hd L hL).2⟩⟩,st.prot,fun b hb=>⟨fun q=>(st.hid b hb).1 (ko.subset q),(st.hid b hb).2⟩⟩
 exact (st.objs a o (k.subset hm)).mono Ext.refl (Grow.wider fun b hb=>.inl (ko.subset hb))
theorem Rtn.post {A:Around} {s s':Shared} {own:List Addr} {σ':Led} {v v':V} {cv:Value} (r:Rtn σ v σ' v') (t:Step c.F own (zab σ) s s') (st:St c A σ s'.heap) (rv:VRel s'.heap (zah c σ) v cv) :
  Step c.F own (zab σ') s s'/\St c A σ' s'.heap/\VRel s'.heap (zah c σ') v' cv:=by
 cases r with
 | keep k=>
  have ko:=zeu k
  exact ⟨⟨t.kept,t.there,t.prot,fun b hb=>t.grow b (ko.subset hb),t.os,t.gens⟩,st.sub k,VRel.mono Kept.refl (Grow.wider fun b hb=>.inl (ko.subset hb)) _ _ rv⟩
 | @freeze a vs σ' hl k=>
  have k':σ'.Sublist σ:=k.trans List.filter_sublist
  have ko:=zeu k'
  refine ⟨⟨t.kept,t.there,t.prot,fun b hb=>t.grow b (ko.subset hb),t.os,t.gens⟩,st.sub k',?_⟩
  simp only [VRel] at rv;subst rv
  obtain ⟨cs,p,hsz,rs⟩:=st.objs _ _ (zad hl)
  simp only [VRel]
  refine ⟨a,cs,rfl,fun hm=>?_,p,hsz,VRels.mono Kept.refl (Grow.wider fun b hb=>.inl (ko.subset hb)) _ _ rs⟩
  have ha0:a∈zab σ:=mem_owned.mpr ⟨a,_,zad hl,by simp [O.addrs]⟩
  replace hm:a∈zab σ':=(List.mem_append.mp hm).elim (fun q=>absurd ha0 (st.hid a q).1) id
  -- the address is borne once
  have hnd:=st.nodup
  have hm':a∈zab (σ.filter fun p=>p.1 != a):=(zeu k).subset hm
  obtain ⟨b,o,hbo,hab⟩:=mem_owned.mp hm'
  have hb:(b,o)∈σ/\b≠a:=by simpa using List.mem_filter.mp hbo
  have key:∀ (τ:Led),(zab τ).Nodup->(a,O.list vs)∈τ->(b,o)∈τ->b≠a->a∈o.addrs b->False:=by
   intro τ
   induction τ with
   | nil=>intro _ h;cases h
   | cons x τ ih=>
    obtain ⟨y,oy⟩:=x
    intro hnd h1 h2 hne ha
    obtain ⟨_,hnd2,hdis⟩:=List.nodup_append.mp hnd
    rcases List.mem_cons.mp h1 with q1 | q1 <;> rcases List.mem_cons.mp h2 with q2 | q2
    ·cases q1;cases q2;exact hne rfl
    ·cases q1;exact hdis a (by simp [O.addrs]) a (mem_owned.mpr ⟨b,o,q2,ha⟩) rfl
    ·cases q2;exact hdis a ha a (mem_owned.mpr ⟨a,_,q1,by simp [O.addrs]⟩) rfl
    ·exact ih hnd2 q1 q2 hne ha
  exact key σ hnd (zad hl) hb.1 hb.2 hab
noncomputable def Ret (P:V->Led->Prop):Fl->zaf->Led->Prop
 | .ret v,_,σ=>∃ v' σ',Rtn σ v σ' v'/\P v' σ'
 | .next,_,σ=>∃ σ',σ'.Sublist σ/\P .none σ'
 | _,_,_=>False
noncomputable def zcs:List Str->Bool
 | []=>true
 | x::r=>!r.contains x && zcs r
theorem zci {l:List Str} (h:zcs l=true):l.Nodup:=by
 induction l with
 | nil=>exact .nil
 | cons x r ih=>
  simp only [zcs,Bool.and_eq_true,Bool.not_eq_true',List.contains_eq_mem,decide_eq_false_iff_not] at h
  exact List.nodup_cons.mpr ⟨h.1,ih h.2⟩
set_option tactic.hygienic true
theorem zb6:∀ (names:List (Str × NameKind)) (n:Nat) (acc:List (Str × Addr)) {x:Str} {a:Addr},(x,a)∈cellsFrom n names acc->(x,a)∈acc\/((x,NameKind.cell)∈names/\n<=a)
 | [],_,_,_,_,h=>.inl h
 | (y,k)::r,n,acc,x,a,h=>by
  unfold cellsFrom at h
  split at h
  ·rename_i hk
   have hk':k=.cell:=beq_iff_eq.mp hk
   subst hk'
   rcases zb6 r (n+1) _ h with q | ⟨q1,q2⟩
   ·rcases List.mem_cons.mp q with q | q
    ·cases q;exact .inr ⟨.head _,Nat.le_refl _⟩
    ·exact .inl q
   ·exact .inr ⟨.tail _ q1,by (exact Ar.l02 (.le (.v 0) (.v 1)) [(.le (.a (.v 0) (.k 1)) (.v 1))] (by kernel_rfl) q2)⟩
  ·rcases zb6 r n _ h with q | ⟨q1,q2⟩
   ·exact .inl q
   ·exact .inr ⟨.tail _ q1,q2⟩
theorem za4:∀ (names:List (Str × NameKind)) (n:Nat) (acc:List (Str × Addr)),(cellsFrom n names acc).map (·.1)=((names.filter (·.2 == .cell)).map (·.1)).reverse++acc.map (·.1)
 | [],_,_=>by simp [cellsFrom]
 | (y,k)::r,n,acc=>by
  unfold cellsFrom
  split
  ·rename_i hk
   rw [za4 r]
   simp [List.filter_cons,hk]
  ·rename_i hk
   rw [za4 r]
   have:(k == NameKind.cell)=false:=by simpa using hk
   simp [List.filter_cons,this]
set_option tactic.hygienic false
theorem zb7 {α:Type} {l:List (Str × α)} (hn:(l.map (·.1)).Nodup) {x:Str} {a:α} (h:(x,a)∈l):l.lookup x=some a:=by
 induction l with
 | nil=>cases h
 | cons p r ih=>
  have hn:=List.nodup_cons.mp (show (p.1::r.map (·.1)).Nodup from hn)
  rcases List.mem_cons.mp h with q | q
  ·rw [← q,List.lookup_cons,beq_self_eq_true]
  ·rw [show p=(p.1,p.2) from rfl,List.lookup_cons,beq_eq_false_iff_ne.mpr fun (e:x=p.1)=>hn.1 (e ▸ List.mem_map.mpr ⟨_,q,rfl⟩)]
   exact ih hn.2 q
theorem zat:∀ {l:List (Str × Addr)} {x:Str},x∈l.map (·.1)->∃ a,l.lookup x=some a
 | (y,b)::r,x,h=>by
  rw [List.lookup_cons]
  cases hb:x == y with
  | true=>exact ⟨b,rfl⟩
  | false=>
   simp only [List.map_cons,List.mem_cons] at h
   rcases h with h | h
   ·subst h;simp at hb
   ·exact zat h
noncomputable def z3y (sc:Scope) (names:List Str):Bool:=
 sc.kind == .function && !sc.isCoroutine && !sc.isGenerator && names.all (fun x=>zk3 sc x) && (sc.names.all fun p=>p.2 != .free && p.1 != ("__debug__":Str)) && zcs ((sc.names.filter (·.2 == .cell)).map (·.1)) && zcs names
inductive FnQ (h0:Heap) (f:Value) (names:List Str) (body:List Stmt) (sc:Scope):Prop
 | mk (a:Addr) (o:Obj) (fd:FuncData):f=.ref a->h0.get? a=some o->o.data=.func fd->h0.CodeRec fd.code fd.qualname->fd.body=.stmts body->fd.scope=sc->fd.closure=[]->fd.globals=mainGlobals->fd.builtins=builtinsNs->
  (∀ cs:List Value,cs.length=names.length->bindArgs fd ⟨cs,[]⟩=pure (names.zip cs))->FnQ h0 f names body sc
structure FnAt (c:Cx) (f:Value) (names:List Str) (body:List Stmt) (sc:Scope):Prop where
 at_:FnQ c.k.h0 f names body sc
theorem zm3 {kindOf:Str->Option NameKind} (binds:List (Str × Value)):∀ (m0:Str->Option Value),(binds.map (·.1)).Nodup->∀ x,kindOf x=some .local->bindL kindOf binds m0 x=(binds.lookup x).or (m0 x):=by
 induction binds with
 | nil=>exact fun m0 z1 x z2=>by simp [bindL]
 | cons p r ih=>
  intro m0 hn x hk
  have hn:=List.nodup_cons.mp (show (p.1::r.map (·.1)).Nodup from hn)
  rw [show p=(p.1,p.2) from rfl]
  unfold bindL
  rw [ih _ hn.2 x hk,List.lookup_cons]
  by_cases e:x=p.1
  ·rw [← e,if_pos hk,beq_self_eq_true]
   have:r.lookup x=none:=by
    cases q:r.lookup x with
    | none=>rfl
    | some w=>exact absurd (List.mem_map.mpr ⟨_,mem_of_lookup q,e⟩) hn.1
   rw [this];simp
  ·rw [beq_eq_false_iff_ne.mpr e]
   split <;> simp [e]
theorem zgg {kindOf:Str->Option NameKind}:∀ (binds:List (Str × Value)) (m0:Str->Option Value),(binds.map (·.1)).Nodup->∀ x,kindOf x≠some .local->bindC kindOf binds m0 x=(binds.lookup x).or (m0 x)
 | [],m0,_,x,_=>by simp [bindC]
 | (n,v)::r,m0,hn,x,hk=>by
  simp only [List.map_cons,List.nodup_cons] at hn
  unfold bindC
  rw [zgg r _ hn.2 x hk,List.lookup_cons]
  by_cases e:x=n
  ·subst e
   rw [if_neg hk,beq_self_eq_true]
   have:r.lookup x=none:=by
    cases q:r.lookup x with
    | none=>rfl
    | some w=>exact absurd (List.mem_map.mpr ⟨_,mem_of_lookup q,rfl⟩) hn.1
   rw [this];simp
  ·rw [beq_eq_false_iff_ne.mpr e]
   split <;> simp [e]
theorem zjf {h:Heap} {own:List Addr} {names:List Str}:∀ {vs:List V} {cs:List Value} {x:Str} {v:V},VRels h own vs cs->(names.zip vs).lookup x=some v->∃ cv,(names.zip cs).lookup x=some cv/\VRel h own v cv:=by
 induction names with
 | nil=>exact fun z1 e=>nomatch e
 | cons n names ih=>
  intro vs cs x v r e
  cases vs with
  | nil=>cases e
  | cons w vs=>
   simp only [VRels] at r
   obtain ⟨cw,cs',rfl,r1,rs⟩:=r
   rw [List.zip_cons_cons,List.lookup_cons] at e ⊢
   cases hb:x == n with
   | true=>rw [hb] at e;exact ⟨cw,rfl,Option.some.inj e ▸ r1⟩
   | false=>rw [hb] at e;exact ih rs e
theorem znv {f:Value} {names:List Str} {body:List Stmt} {vs:List V} (hc:c.k.OK) (hf:FnAt c f names body sc) (hsc:z3y sc names=true) (hl:vs.length=names.length)
  (h:WSs c d sc body (names.zip vs) σ (Ret P) X):CallS c (d+1) f vs σ P X:=by
 intro A s E cs hA st rs hX
 obtain ⟨a,o,fd,rfl,ho,hd,hcode,hbody,hscope,hclo,hglob,hblt,hbind⟩:=hf.at_
 subst hscope
 simp only [z3y,Bool.and_eq_true,beq_iff_eq,Bool.not_eq_true',List.all_eq_true,bne_iff_ne,ne_eq] at hsc
 obtain ⟨⟨⟨⟨⟨⟨hk,hco⟩,hgen⟩,hnames⟩,hkinds⟩,hcells⟩,hnd⟩:=hsc
 have hnd':=zci hnd
 have hlen:cs.length=names.length:=by rw [rs.length,hl]
 have hzip:(names.zip cs).map (·.1)=names:=by rw [List.map_fst_zip];(exact Ar.l02 (.le (.v 0) (.v 1)) [(.eq (.v 1) (.v 0))] (by kernel_rfl) hlen)
 have hkeys:((cellsFrom (s.heap.objs.size+1) fd.scope.names []).map (·.1)).Nodup:=by
  rw [za4,List.map_nil,List.append_nil];exact (List.reverse_perm _).nodup_iff.mpr (zci hcells)
 refine wpAny_call (codeAny_call_cells (by have:=hA.depth;unfold recursionLimit;(exact Ar.l02 (.lt (.v 0) (.k 1000)) [(.lt (.a (.v 0) (.a (.v 1) (.k 1))) (.k 900))] (by kernel_rfl) this)) (st.keep _ _ ho) hd (hc.nolimit.keeps st.keep) (hcode.keeps st.keep) hbody (hbind cs hlen) hclo ?_ ?_ hco hgen hk)
 ·intro x hx
  have hx1:x.1∈names:=by rw [← hzip];exact List.mem_map.mpr ⟨x,hx,rfl⟩
  rcases zfu (hnames x.1 hx1) with q | q
  ·exact .inl q
  ·refine .inr ⟨q,?_⟩
   obtain ⟨b,hb⟩:=zat (l:=cellsFrom (s.heap.objs.size+1) fd.scope.names []) (x:=x.1) (by
    rw [za4]
    simp only [List.map_nil,List.append_nil,List.mem_reverse,List.mem_map,List.mem_filter]
    exact ⟨_,⟨mem_of_lookup q,by simp⟩,rfl⟩)
   rw [hb];rfl
 ·intro s₁ ic
  have hE:callEnvC fd s.heap.objs.size a=newEnv fd.scope s.heap.objs.size fd.globals (cellsFrom (s.heap.objs.size+1) fd.scope.names []) (fd.qualname++".<locals>.") (some a) fd.code none fd.builtins:=rfl
  generalize henv:callEnvC fd s.heap.objs.size a=env at ic ⊢
  have eloc:env.locals=s.heap.objs.size:=by rw [← henv];rfl
  have escope:env.scope=fd.scope:=by rw [← henv];rfl
  have ecells:env.cells=cellsFrom (s.heap.objs.size+1) fd.scope.names []:=by rw [← henv];rfl
  have eglob:env.globals=mainGlobals:=by rw [← henv];exact hglob
  have eblt:env.builtins=builtinsNs:=by rw [← henv];exact hblt
  have eframe:env.frame=some env.locals:=by rw [← henv];rfl
  have ekind:∀ x,env.kindOf x=fd.scope.names.lookup x:=fun x=>by unfold Env.kindOf;rw [escope]
  have nofree:∀ x,env.kindOf x≠some .free:=fun x q=>by
   rw [ekind] at q;exact (hkinds _ (mem_of_lookup q)).1 rfl
  obtain ⟨⟨h₁,tk,hs₁⟩,hns,hkeep,hfresh⟩:=ic.toInCall
  have hext:Ext s.heap s₁.heap:=hkeep
  have ok:zco env:=by
   refine ⟨by rw [escope];exact hk,?_,fun q=>nofree _ q,eglob,eblt,fun x q=>?_⟩
   ·rw [ekind]
    cases q:fd.scope.names.lookup ("__debug__":Str) with
    | none=>rfl
    | some k=>exact absurd rfl (hkinds _ (mem_of_lookup q)).2
   ·rcases q with q | q
    ·rw [ekind] at q
     rw [ecells]
     refine zat ?_
     rw [za4]
     simp only [List.map_nil,List.append_nil,List.mem_reverse,List.mem_map,List.mem_filter]
     exact ⟨_,⟨mem_of_lookup q,by simp⟩,rfl⟩
    ·exact absurd q (nofree x)
  have hpnew:∀ b∈places env,s.heap.get? b=none:=fun b hb=>by
   simp only [places,List.mem_cons,List.mem_map] at hb
   have hle:s.heap.objs.size<=b:=by
    rcases hb with rfl | ⟨⟨x,b'⟩,hm,rfl⟩
    ·(exact Ar.l02 (.le (.v 0) (.v 1)) [(.le (.v 0) (.v 1))] (by kernel_rfl) hfresh)
    ·rw [ecells] at hm
     rcases zb6 _ _ _ hm with q | ⟨_,q⟩
     ·cases q
     ·dsimp only;(exact Ar.l02 (.le (.v 0) (.v 1)) [(.le (.a (.v 0) (.k 1)) (.v 1))] (by kernel_rfl) q)
   cases e:s.heap.get? b with
   | none=>rfl
   | some o=>exact absurd (Heap.lt_size e) (Nat.not_lt.mpr hle)
  have hpb:∀ b∈places env,b∉zah c σ/\c.k.h0.get? b=none/\b∉c.F:=fun b hb=>by
   have hn:=hpnew b hb
   exact ⟨st.noS hn,st.no0 hn,st.noF hn⟩
  have hLp:env.locals∈places env:=by simp [places]
  have hcp:∀ x b,(x,b)∈env.cells->b∈places env:=fun x b hm=>by simp only [places,List.mem_cons,List.mem_map];exact .inr ⟨_,hm,rfl⟩
  have st₁:St c (A.deeper env) σ s₁.heap:=by
   have:=st.ext hext
   obtain ⟨l,hl,hf,hdd⟩:=this.frames
   refine ⟨this.keep,this.nodup,this.fresh,this.objs,⟨env::l,Around.frames_deeper hl,.cons (by rw [ok.kind];decide) eframe hns (hpb _ hLp).2.1 hf,fun L hL=>?_⟩,this.prot,this.hid⟩
   rw [List.filterMap_cons,eframe] at hL
   rcases List.mem_cons.mp hL with rfl | hL
   ·refine ⟨fun q=>(hpb _ hLp).1 (List.mem_append_right _ q),(hpb _ hLp).2.2,fun o e=>?_⟩
    obtain ⟨oL,es,ep,e',hd',_⟩:=hns
    rw [e'] at e;cases e;exact ⟨es,ep,hd'⟩
   ·exact hdd L hL
  have hA':AOk c.k d (A.deeper env):=⟨hA.handled,by have:=hA.depth;show A.depth+1+d<900;(exact Ar.l02 (.lt (.a (.a (.v 0) (.k 1)) (.v 1)) (.k 900)) [(.lt (.a (.v 0) (.a (.v 1) (.k 1))) (.k 900))] (by kernel_rfl) this),by have:=hA.units;show A.units+3+20 * d<9000;(exact Ar.l02 (.lt (.a (.a (.v 0) (.k 3)) (.m 20 (.v 1))) (.k 9000)) [(.lt (.a (.v 0) (.m 20 (.a (.v 1) (.k 1)))) (.k 9000))] (by kernel_rfl) this),by have:=hA.le;(exact Ar.l01 (.le (.v 0) (.k 100)) [(.le (.a (.v 0) (.k 1)) (.k 100))] (by kernel_rfl) this)⟩
  have rs₁:=VRels.mono hext.kept (Grow.refl (own:=zah c σ)) vs cs rs
  have er₁:EnvRel c (zah c σ) env (names.zip vs) s₁.heap:=by
   refine ⟨⟨_,hns,fun x v hx hkx=>?_⟩,fun x v hx hkx=>?_,hpb _ hLp,fun x b hm=>?_,ic.apart⟩
   ·obtain ⟨cv,e,r⟩:=zjf rs₁ hx
    exact ⟨cv,by rw [zm3 _ _ (by rw [hzip];exact hnd') x hkx,e];rfl,r⟩
   ·obtain ⟨b,hb⟩:=ok.cell x hkx
    obtain ⟨cv,e,r⟩:=zjf rs₁ hx
    refine ⟨b,cv,hb,?_,r⟩
    have:=ic.cell x b hb
    rwa [zgg _ _ (by rw [hzip];exact hnd') x (fun q=>by rw [q] at hkx;simp at hkx),e] at this
   ·refine ⟨(hpb _ (hcp x b hm)).1,?_,(hpb _ (hcp x b hm)).2.1,(hpb _ (hcp x b hm)).2.2,_,ic.cell x b (zb7 (by rw [ecells];exact hkeys) hm)⟩
    rw [eloc]
    rw [ecells] at hm
    rcases zb6 _ _ _ hm with q | ⟨_,q⟩
    ·cases q
    ·exact Nat.ne_of_gt (Nat.lt_of_succ_le q)
  obtain ⟨l0,hl0,_⟩:=id st.frames
  have hos:s₁.os=s.os:=by rw [hs₁]
  have hgn:s₁.gens=s.gens:=by rw [hs₁]
  refine wpAny_mono (h env (A.deeper env) s₁ _ ⟨escope,ok,⟨l0,Around.frames_deeper hl0⟩,hA',st₁,er₁,fun e cls σ' s' hx t hs er he=>?_⟩) ?_ fun z1 z2 x=>x
  ·obtain ⟨l',hl',hf',_⟩:=id hs.frames
   have:l'=env::l0:=by rw [Around.frames_deeper hl0] at hl';exact (Option.some.inj hl').symm
   subst this
   refine wpAny_bind (zum (base:=s₁.heap) hl' hf' eframe he (fun b o q=>t.there b o q) fun h' n=>?_)
   exact hX e cls σ' _ hx (Step.uncall hext hos hgn hpnew (t.noted hs hl' n)) (St.undeep hl0 (hs.noted hl' n fun b o q k=>by rw [st₁.keep b o q] at k;cases k)) (n.exc.sooner fun b o q=>⟨o,hext b o q⟩)
  rintro f s₂ ⟨fl,m₂,σ₂,h₂,t₂,hs₂,er₂,rf⟩
  have st₂:St c A σ₂ s₂.heap:=St.undeep hl0 hs₂
  have t₁₂:Step c.F (zab σ) (zab σ₂) s s₂:=Step.uncall hext hos hgn hpnew t₂
  cases fl with
  | ret v=>
   obtain ⟨cv,rfl,rv⟩:=rf
   obtain ⟨v',σ',hr,hp⟩:=h₂
   obtain ⟨q1,q2,q3⟩:=hr.post t₁₂ st₂ rv
   exact ⟨v',σ',hp,q1,q2,q3⟩
  | next=>
   cases rf
   obtain ⟨σ',hr,hp⟩:=h₂
   obtain ⟨q1,q2,q3⟩:=(Rtn.keep (v:=.none) hr).post (cv:=.none) t₁₂ st₂ (by simp only [VRel])
   exact ⟨.none,σ',hp,q1,q2,q3⟩
  | brk=>exact h₂.elim
  | cont=>exact h₂.elim
end Mine
end
section
namespace Mine
open PySem
variable {c:Cx} {d:Nat} {sc:Scope} {m:zaf} {σ:Led} {P:V->Led->Prop} {X:XP} {K:Fl->zaf->Led->Prop}
noncomputable def Cx.hide (c:Cx) (D:Addr):Cx:={ c with H:=D::c.H }
theorem St.hideNew {A:Around} {h h':Heap} {D:Addr} {ob:Obj} (st:St c A σ h) (x:Ext h h') (hn:h.get? D=none) (hD:h'.get? D=some ob):St (c.hide D) A σ h':=by
 have st':=st.ext x
 have hno:D∉zab σ:=fun q=>by obtain ⟨o,e⟩:=st.there q;rw [hn] at e;cases e
 refine ⟨st'.keep,st'.nodup,st'.fresh,fun a o hm=>?_,st'.frames,st'.prot,fun b hb=>?_⟩
 ·refine (st.objs a o hm).mono x fun b hb=>?_
  rcases List.mem_cons.mp hb with rfl | hb
  ·exact .inr hn
  ·exact .inl hb
 ·rcases List.mem_cons.mp hb with rfl | hb
  ·exact ⟨hno,ob,hD⟩
  ·exact st'.hid b hb
theorem St.unhide {A:Around} {h:Heap} {D:Addr} (st:St (c.hide D) A σ h):St c A σ h:=
 ⟨st.keep,st.nodup,st.fresh,fun a o hm=>(st.objs a o hm).mono Ext.refl fun b hb=>.inl (List.mem_cons_of_mem _ hb),st.frames,st.prot,fun b hb=>st.hid b (List.mem_cons_of_mem _ hb)⟩
theorem But.carriesHid {own:List Addr} {h h':Heap} {D:Addr} (hD:D∈own) (k:But D h h'):Carries own own h h':=fun a o e ha f=>⟨k a o (fun q=>ha (q ▸ hD)) e,ha⟩
theorem St.writeHid {A:Around} {h h':Heap} {D:Addr} {ob ob':Obj} (st:St c A σ h) (hD:D∈c.H) (h0:c.k.h0.get? D=none) (hob:h.get? D=some ob) (hnd:¬ Obj.isDict ob) (k:But D h h') (hob':h'.get? D=some ob'):St c A σ h':=by
 have hno:=(st.hid D hD).1
 have hc:Carries (zah c σ) (zah c σ) h h':=k.carriesHid (List.mem_append_left _ hD)
 refine ⟨fun b o e=>k b o (fun q=>by rw [q,h0] at e;cases e) (st.keep b o e),st.nodup,st.fresh,fun a o hm=>?_,?_,fun b hb=>?_,fun b hb=>?_⟩
 ·have hne:∀ b∈o.addrs a,b≠D:=fun b hb q=>hno (mem_owned.mpr ⟨a,o,hm,q ▸ hb⟩)
  have hr:=st.objs a o hm
  cases o with
  | list vs=>
   obtain ⟨cs,⟨n,p⟩,hl,r⟩:=hr
   exact ⟨cs,⟨n,k a _ (hne a (by simp [O.addrs])) p⟩,hl,r.carry hc⟩
  | dictI _=>exact DictR.carry hr (fun ob' e=>k a _ (hne a (by simp [O.addrs])) e) hc
  | dictS _=>exact DictR.carry hr (fun ob' e=>k a _ (hne a (by simp [O.addrs])) e) hc
  | inst _ _ _=>exact InstR.carry hr (fun b hb ob' e=>k b _ (hne b (by simpa [O.addrs] using hb)) e) hc
  | exc C=>obtain ⟨o,vs,e,q1,q2⟩:=hr;exact ⟨o,vs,k a _ (hne a (by simp [O.addrs])) e,q1,q2⟩
 ·obtain ⟨l,hl,hfr,hd⟩:=st.frames
  have hne:∀ L∈l.filterMap (·.frame),L≠D:=fun L hL q=>by subst q;exact hnd ((hd L hL).2.2 _ hob)
  refine ⟨l,hl,zby hfr fun L hL=>?_,fun L hL=>⟨(hd L hL).1,(hd L hL).2.1,fun o e=>?_⟩⟩
  ·obtain ⟨_,o,ho,hnf⟩:=hfr.mem hL
   exact ⟨o,k L o (hne L hL) ho,hnf⟩
  ·obtain ⟨_,o',e',_⟩:=hfr.mem hL
   rw [k L o' (hne L hL) e'] at e;cases e
   exact (hd L hL).2.2 o e'
 ·obtain ⟨o,e⟩:=st.prot b hb
  by_cases q:b=D
  ·subst q;exact ⟨_,hob'⟩
  ·exact ⟨o,k b o q e⟩
 ·obtain ⟨q1,o,e⟩:=st.hid b hb
  refine ⟨q1,?_⟩
  by_cases q:b=D
  ·subst q;exact ⟨_,hob'⟩
  ·exact ⟨o,k b o q e⟩
theorem EnvRel.writeHid {env:Env} {h h':Heap} {D:Addr} (er:EnvRel c (zah c σ) env m h) (hD:D∈c.H) (k:But D h h'):EnvRel c (zah c σ) env m h':=by
 have hDo:D∈zah c σ:=List.mem_append_left _ hD
 have hc:Carries (zah c σ) (zah c σ) h h':=k.carriesHid hDo
 obtain ⟨mc,⟨oL,es,ep,ho,r⟩,hm⟩:=er.ns
 have hcell:∀ {a:Addr} {v:Option Value},a∉zah c σ->h.IsCell a v->h'.IsCell a v:=fun {a v} ha ⟨oc,hoc,hdc⟩=>⟨oc,k a oc (fun q=>ha (q ▸ hDo)) hoc,hdc⟩
 refine ⟨⟨mc,⟨oL,es,ep,k _ _ (fun q=>er.lnot.1 (q ▸ hDo)) ho,r⟩,fun y v hy hk=>?_⟩,fun y v hy hk=>?_,er.lnot,fun y a ha=>?_,er.apart⟩
 ·obtain ⟨cv,e,r⟩:=hm y v hy hk
  exact ⟨cv,e,r.carry hc⟩
 ·obtain ⟨a,cv,e,hcl,r⟩:=er.cell y v hy hk
  exact ⟨a,cv,e,hcell (er.cnot y a (mem_of_lookup e)).1 hcl,r.carry hc⟩
 ·obtain ⟨h1,h2,h3,h4,v,h5⟩:=er.cnot y a ha
  exact ⟨h1,h2,h3,h4,v,hcell h1 h5⟩
theorem zgv {prog:Program} {w:World} {A:Around} {R:Result->Shared->Prop} {s:Shared} {elt target iter:Expr} {ifs:List Expr} {scope:Scope} {pos:Pos} {it acc:Value} {env:Env} (I:Nat->Shared->Prop)
  (turn:∀ n s,I n s->wpAny (model prog w) A (pyNext it) (fun r s₁=>match r with
   | none=>R (.ok .next) s₁
   | some v=>wpAny (model prog w) A (letOwnedTupleGo target it v) (fun z1 s₁'=>wpAny (model prog w) A (assign target env v) (fun z1 s₂=>
     wpAny (model prog w) A (forIn ifs true fun c r=>if r=true then do let ok ← isTrue c env (eval c env);pure (ForInStep.yield ok) else pure (ForInStep.yield r)) (fun ok s₃=>
      if ok=true then wpAny (model prog w) A (eval elt env) (fun x s₄=>
       wpAny (model prog w) A (call (.builtin "list.append") [acc,x]) (fun z1 s₅=>∃ m,m<n/\I m s₅) (notedBy (model prog w) A env fun e s'=>R (.error e) s') s₄) (notedBy (model prog w) A env fun e s'=>R (.error e) s') s₃
      else ∃ m,m<n/\I m s₃) (notedBy (model prog w) A env fun e s'=>R (.error e) s') s₂) (notedBy (model prog w) A env fun e s'=>R (.error e) s') s₁') (notedBy (model prog w) A env fun e s'=>R (.error e) s') s₁) (notedBy (model prog w) A env fun e s'=>R (.error e) s') s)
  (n:Nat) (h:I n s):codeAny (model prog w) A (.compLoop (.ListComp elt [⟨target,iter,ifs,0⟩] scope pos) 0 it acc env) R s:=by
 refine codeAny_loop rfl I (fun n s hI=>?_) n h
 show wpAny _ A ((compTurn (.ListComp elt [⟨target,iter,ifs,0⟩] scope pos) 0 it acc env).onRaise (fun x=>do noteFrame x env;theTreesLotGoes x)) _ _ s
 refine wpAny_noted ?_
 rw [compTurn_list]
 refine wpAny_bind (wpAny_standAt (wpAny_bind (wpAny_mono (turn n s hI) (fun r s₁ h₁=>?_) fun z1 z2 h'=>h')))
 cases r with
 | none=>exact wpAny_pure h₁
 | some v=>
  refine wpAny_bind (wpAny_mono h₁ (fun z1 s₁' h₁'=>wpAny_bind (wpAny_mono h₁' (fun z1 s₂ h₂=>wpAny_bind (wpAny_mono h₂ (fun ok s₃ h₃=>?_) fun z1 z2 h'=>h')) fun z1 z2 h'=>h')) fun z1 z2 h'=>h')
  cases ok with
  | false=>exact wpAny_pure ⟨rfl,h₃⟩
  | true=>
   exact wpAny_bind (wpAny_bind (wpAny_mono h₃ (fun x s₄ h₄=>wpAny_bind (wpAny_mono h₄ (fun z1 s₅ h₅=>wpAny_pure (wpAny_pure ⟨rfl,h₅⟩)) fun z1 z2 h'=>h')) fun z1 z2 h'=>h'))
noncomputable def zw7:Option NameKind->Bool
 | some .cell | some .free=>true
 | _=>false
noncomputable def zea:Option NameKind->Bool
 | some .local | some .cell=>true
 | _=>false
noncomputable def ze3 (scope sc:Scope) (xs:List Str):Bool:=
 scope.kind == .function && zcs (scope.names.map (·.1)) &&
 (scope.names.all fun p=>p.1 != ("__debug__":Str) && p.1 != ("__classdict__":Str) && (p.2 != .free || zw7 (sc.names.lookup p.1)) && (!zea (some p.2) || xs.contains p.1 || p.1 == (".0":Str))) &&
 xs.all fun x=>zea (scope.names.lookup x)
noncomputable def zb5 (scope sc:Scope):Scope:=
 { scope with names:=scope.names.map fun (n,k)=>if (k == .free && sc.kind == .function && sc.names.lookup n == some .cell) then (n,.cell) else (n,k) }
set_option tactic.hygienic true
theorem zht {scope sc:Scope} {x:Str}:(zb5 scope sc).names.lookup x=(scope.names.lookup x).map fun k=>if (k == .free && sc.kind == .function && sc.names.lookup x == some .cell) then .cell else k:=by
 unfold zb5
 dsimp only
 induction scope.names with
 | nil=>rfl
 | cons p r ih=>
  obtain ⟨n,k⟩:=p
  simp only [List.map_cons]
  by_cases hx:x=n
  ·subst hx
   split
   ·rename_i hc
    simp only [List.lookup_cons,beq_self_eq_true,Option.map_some]
    rw [if_pos hc]
   ·rename_i hc
    simp only [List.lookup_cons,beq_self_eq_true,Option.map_some]
    rw [if_neg hc]
  ·have hb:(x == n)=false:=beq_eq_false_iff_ne.mpr hx
   split <;> simp only [List.lookup_cons,hb] <;> exact ih
noncomputable def zq0 (cells:List (Str × Addr)):List (Str × NameKind)->List (Str × Addr)->List (Str × Addr)
 | [],acc=>acc
 | (n,k)::r,acc=>if k == .free then zq0 cells r ((n,(cells.lookup n).getD 0)::acc) else zq0 cells r acc
set_option tactic.hygienic false
theorem zle {scope:Scope} {env:Env} (h:∀ p∈scope.names,p.2=.free->∃ a,env.cells.lookup p.1=some a):closureFor scope env=pure (zq0 env.cells scope.names []):=by
 unfold closureFor
 have key:∀ (names:List (Str × NameKind)) (acc:List (Str × Addr)),(∀ p∈names,p.2=.free->∃ a,env.cells.lookup p.1=some a)->
   (forIn names acc fun x cs=>match x with | (name,kind)=>if (kind == NameKind.free)=true then (do let a ← cellOf env name;pure (ForInStep.yield ((name,a)::cs))) else pure (ForInStep.yield cs))=(pure (zq0 env.cells names acc):Sem _):=by
  intro names
  induction names with
  | nil=>intro acc _;rfl
  | cons p r ih=>
   intro acc hp
   obtain ⟨n,k⟩:=p
   rw [List.forIn_cons]
   have hr:=fun p hm=>hp p (List.mem_cons_of_mem _ hm)
   by_cases hk:(k == NameKind.free)=true
   ·obtain ⟨a,ha⟩:=hp (n,k) (.head _) (beq_iff_eq.mp hk)
    have e1:cellOf env n=pure a:=by unfold cellOf;rw [ha]
    simp only [hk,if_true,e1,pure_bind]
    rw [ih _ hr]
    simp only [zq0,hk,if_true,ha,Option.getD_some]
   ·have hk':(k == NameKind.free)=false:=by simpa using hk
    simp only [hk',Bool.false_eq_true,if_false,pure_bind]
    rw [ih _ hr]
    simp only [zq0,hk',Bool.false_eq_true,if_false]
 have:=key scope.names [] h
 simp only [bind_pure]
 exact this
set_option tactic.hygienic true
theorem zk1:∀ (cells:List (Str × Addr)) (names:List (Str × NameKind)) (acc:List (Str × Addr)) {x:Str} {a:Addr},(x,a)∈zq0 cells names acc->(x,a)∈acc\/((x,NameKind.free)∈names/\a=(cells.lookup x).getD 0)
 | _,[],_,_,_,h=>.inl h
 | cells,(n,k)::r,acc,x,a,h=>by
  unfold zq0 at h
  split at h
  ·rename_i hk
   have hk':k=.free:=beq_iff_eq.mp hk
   subst hk'
   rcases zk1 cells r _ h with q | ⟨q1,q2⟩
   ·rcases List.mem_cons.mp q with q | q
    ·cases q;exact .inr ⟨.head _,rfl⟩
    ·exact .inl q
   ·exact .inr ⟨.tail _ q1,q2⟩
  ·rcases zk1 cells r _ h with q | ⟨q1,q2⟩
   ·exact .inl q
   ·exact .inr ⟨.tail _ q1,q2⟩
theorem zex:∀ (cells:List (Str × Addr)) (names:List (Str × NameKind)) (acc:List (Str × Addr)),(zq0 cells names acc).map (·.1)=((names.filter (·.2 == .free)).map (·.1)).reverse++acc.map (·.1)
 | _,[],_=>by simp [zq0]
 | cells,(y,k)::r,acc=>by
  unfold zq0
  split
  ·rename_i hk
   rw [zex cells r]
   simp [List.filter_cons,hk]
  ·rename_i hk
   rw [zex cells r]
   have:(k == NameKind.free)=false:=by simpa using hk
   simp [List.filter_cons,this]
set_option tactic.hygienic false
theorem zkq {cells l:List (Str × Addr)} (hp:cells.Pairwise fun x y=>x.2≠y.2) (hn:(l.map (·.1)).Nodup) (hl:∀ x a,(x,a)∈l->cells.lookup x=some a):l.Pairwise fun x y=>x.2≠y.2:=by
 induction l with
 | nil=>exact .nil
 | cons p r ih=>
  simp only [List.map_cons,List.nodup_cons] at hn
  refine List.pairwise_cons.mpr ⟨fun q hq e=>?_,ih hn.2 fun x a h=>hl x a (.tail _ h)⟩
  have h1:=hl p.1 p.2 (.head _)
  have h2:=hl q.1 q.2 (.tail _ hq)
  have:p.1=q.1:=name_of_addr hp (mem_of_lookup h1) (e ▸ mem_of_lookup h2)
  exact hn.1 (this ▸ List.mem_map.mpr ⟨q,hq,rfl⟩)
theorem zc0:∀ (names:List (Str × NameKind)) (n:Nat) (acc:List (Str × Addr)),cellsFrom n names acc=cellsFrom n names []++acc
 | [],_,_=>rfl
 | (y,k)::r,n,acc=>by
  unfold cellsFrom
  split
  ·rw [zc0 r (n+1) ((y,n)::acc),zc0 r (n+1) [(y,n)]];simp
  ·exact zc0 r n acc
end Mine
end
section
set_option genSizeOf false
set_option genInjectivity false
namespace Mine
open PySem
variable {c:Cx} {d:Nat} {sc:Scope} {m:zaf} {σ:Led} {P:V->Led->Prop} {X:XP} {K:Fl->zaf->Led->Prop}
theorem ButL.refl {wr:List Addr} {h:Heap}:ButL wr h h:=fun z1 z2 z3 e=>e
theorem ButL.trans {wr:List Addr} {h h' h'':Heap} (x:ButL wr h h') (y:ButL wr h' h''):ButL wr h h'':=fun b o hb e=>y b o hb (x b o hb e)
theorem But.toL {wr:List Addr} {h h':Heap} {L:Addr} (x:But L h h') (hL:L∈wr):ButL wr h h':=fun b o hb e=>x b o (fun q=>hb (q ▸ hL)) e
theorem Ext.toL {wr:List Addr} {h h':Heap} (x:Ext h h'):ButL wr h h':=fun b o z1 e=>x b o e
theorem zp6 {k:Option NameKind} (h:zea k=true):k=some .local\/k=some .cell:=by
 cases k with
 | none=>cases h
 | some k=>cases k <;> first | exact .inl rfl | exact .inr rfl | cases h
theorem zpv {k:Option NameKind} (h:zw7 k=true):k=some .cell\/k=some .free:=by
 cases k with
 | none=>cases h
 | some k=>cases k <;> first | exact .inl rfl | exact .inr rfl | cases h
theorem zq3 {A:Around} {env:Env} {E:Value->Shared->Prop} {W:List Addr} (ok:zco env) (hW:env.locals∈W) {x:Str} {p:Pos} {v:V} {cv:Value} {s:Shared}
  (hk:zea (env.kindOf x)=true) (hw:∀ L,env.kindOf x=some .cell->env.cells.lookup x=some L->L∈W)
  (st:St c A σ s.heap) (er:EnvRel c (zah c σ) env m s.heap) (r:VRel s.heap (zah c σ) v cv) :
  wpAny c.M A (assign (.Name x p) env cv) (fun z1 s'=>∃ h' tk,s'={ s with heap:=h',toks:=tk }/\ButL W s.heap h'/\St c A σ h'/\EnvRel c (zah c σ) env ((x,v)::m) h') E s:=by
 refine wpAny_assign_Name (wpAny_mono (zcp ok st er r (zp6 hk)) ?_ fun z1 z2 x=>x)
 rintro _ s₁ ⟨⟨t₁,hs₁,er₁⟩,L,h',tk,rfl,kb,hL⟩
 have hLW:L∈W:=by
  rcases hL with ⟨_,rfl⟩ | ⟨q1,q2⟩
  ·exact hW
  ·exact hw L q1 q2
 exact ⟨h',tk,rfl,kb.toL hLW,hs₁,er₁⟩
noncomputable def z35 (v:V):Option (List V):=V.casesOn v none (fun z1=>none) (fun z1=>none) (fun z1=>none) some (fun z1=>none) (fun z1 z2=>none) (fun z1 z2=>none) (fun z1=>none) (fun z1=>none)
theorem zrh {v:V} {vs:List V} (h:z35 v=some vs):v=.tup vs:=by
 cases v with
 | tup us=>exact congrArg _ (Option.some.inj h)
 | _=>cases h
noncomputable def bv (n:Nat) (v:V):Option (List V):=if n=1 then some [v] else (z35 v).bind fun vs=>if vs.length=n then some vs else none
noncomputable def bnd {κ:Type} (xs:List κ) (v:V) (m:List (κ × V)):Option (List (κ × V)):=(bv xs.length v).map fun vs=>(xs.zip vs).reverseAux m
set_option tactic.hygienic true
theorem zvu {n:Nat} {v:V} {vs:List V} (hn:n≠1) (h:bv n v=some vs):v=.tup vs/\vs.length=n:=by
 unfold bv at h
 rw [if_neg hn] at h
 obtain ⟨us,h1,h2⟩:=Option.bind_eq_some_iff.mp h
 split at h2
 ·rename_i q;cases h2;exact ⟨zrh h1,q⟩
 ·cases h2
set_option tactic.hygienic false
theorem z49 {n:Nat} {v:V} {vs:List V} (h:bv n v=some vs):vs.length=n:=by
 by_cases q:n=1
 ·unfold bv at h;rw [if_pos q] at h;cases h;exact q.symm
 ·exact (zvu q h).2
noncomputable def zm9:List Expr->List Str->Prop
 | [],xs=>xs=[]
 | t::ts,xs=>∃ x p xs',t=.Name x p/\xs=x::xs'/\zm9 ts xs'
inductive zjc:Expr->List Str->Prop
 | one {x:Str} {p:Pos}:zjc (.Name x p) [x]
 | many {ts:List Expr} {k:Nat} {p:Pos} {xs:List Str}:zm9 ts xs->xs.length≠1->zjc (.Tuple ts k p) xs
theorem z15 {xs:List Str} {v:V} {m m₁:zaf} (h:bnd xs v m=some m₁):∃ pre:zaf,(∀ m',bnd xs v m'=some (pre++m'))/\m₁=pre++m/\∀ x,(pre.lookup x=none ↔ x∉xs):=by
 obtain ⟨vs,h1,rfl⟩:=Option.map_eq_some_iff.mp h
 refine ⟨(xs.zip vs).reverse,fun m'=>?_,List.reverseAux_eq,fun x=>?_⟩
 ·unfold bnd;rw [h1,Option.map_some,List.reverseAux_eq]
 ·rw [List.lookup_eq_none_iff]
  have hm:(xs.zip vs).map (·.1)=xs:=List.map_fst_zip (Nat.le_of_eq (z49 h1).symm)
  constructor
  ·intro k hm'
   rw [← hm] at hm'
   obtain ⟨p,hp,e⟩:=List.mem_map.mp hm'
   exact bne_iff_ne.mp (k p (List.mem_reverse.mpr hp)) e.symm
  ·exact fun k p hp=>bne_iff_ne.mpr fun e=>k (by rw [← hm];exact List.mem_map.mpr ⟨p,List.mem_reverse.mp hp,e.symm⟩)
theorem zr5 {env:Env} {ts:List Expr}:∀ {xs:List Str},zm9 ts xs->(assignEach ts env).length=xs.length/\(assignEach ts env).findIdx? (·.1)=none:=by
 induction ts with
 | nil=>intro xs h;cases (show xs=[] from h);exact ⟨rfl,rfl⟩
 | cons t ts ih=>
  rintro _ ⟨x,p,xs',rfl,rfl,h'⟩
  obtain ⟨e1,e2⟩:=ih h'
  refine ⟨congrArg (·+1) e1,?_⟩
  show ((false,_)::assignEach ts env).findIdx? _=none
  rw [List.findIdx?_cons,e2];rfl
theorem zvw {A:Around} {env:Env} {E:Value->Shared->Prop} {W:List Addr} (ok:zco env) (hW:env.locals∈W) (hp:∀ b∈W,b∈places env) {ts:List Expr}:∀ {xs:List Str} {vs:List V} {cs:List Value} {m:zaf} {s:Shared},zm9 ts xs->vs.length=xs.length->
  (∀ x∈xs,zea (env.kindOf x)=true)->(∀ x∈xs,∀ L,env.kindOf x=some .cell->env.cells.lookup x=some L->L∈W)->
  St c A σ s.heap->EnvRel c (zah c σ) env m s.heap->VRels s.heap (zah c σ) vs cs->
  wpAny c.M A (assignInOrder ((assignEach ts env).map (·.2)) cs) (fun z1 s'=>∃ h' tk,s'={ s with heap:=h',toks:=tk }/\ButL W s.heap h'/\St c A σ h'/\EnvRel c (zah c σ) env ((xs.zip vs).reverseAux m) h') E s:=by
 induction ts with
 | nil=>
  intro xs vs cs m s h hl _ _ st er rs
  cases (show xs=[] from h)
  cases (List.eq_nil_of_length_eq_zero hl)
  cases (show cs=[] from rs)
  exact wpAny_pure ⟨s.heap,s.toks,rfl,.refl,st,er⟩
 | cons t ts ih=>
  rintro _ vs cs m s ⟨x,p,xs',rfl,rfl,h'⟩ hl hk hw st er rs
  cases vs with
  | nil=>cases hl
  | cons v vs=>
   obtain ⟨cv,cs',rfl,r,rs'⟩:=rs
   show wpAny _ _ (do holding cs' (assign (.Name x p) env cv);assignInOrder ((assignEach ts env).map (·.2)) cs') _ _ _
   refine wpAny_bind (wpAny_holding (wpAny_mono (zq3 ok hW (hk x (.head _)) (hw x (.head _)) st er r) ?_ fun z1 z2 x=>x))
   rintro _ s₁ ⟨h₁,tk₁,rfl,kb₁,st₁,er₁⟩
   refine wpAny_mono (ih (s:={ s with heap:=h₁,toks:=tk₁ }) h' (Nat.succ.inj hl) (fun y hy=>hk y (.tail _ hy)) (fun y hy=>hw y (.tail _ hy)) st₁ er₁ (rs'.carry fun a o e ha f=>⟨kb₁ a o (fun w=>er.places a (hp a w) o e f) e,ha⟩)) ?_ fun z1 z2 x=>x
   rintro _ s₂ ⟨h₂,tk₂,rfl,kb₂,st₂,er₂⟩
   exact ⟨h₂,tk₂,rfl,kb₁.trans kb₂,st₂,er₂⟩
theorem zyu {A:Around} {env:Env} {E:Value->Shared->Prop} {W:List Addr} (ok:zco env) (hA:A.handled=none) (hW:env.locals∈W) {te:Expr} {xs:List Str} {v:V} {cv:Value} {s:Shared} {m₁:zaf} (ht:zjc te xs) (hb:bnd xs v m=some m₁)
  (hk:∀ x∈xs,zea (env.kindOf x)=true) (hw:∀ x∈xs,∀ L,env.kindOf x=some .cell->env.cells.lookup x=some L->L∈W) (hp:∀ b∈W,b∈places env)
  (st:St c A σ s.heap) (er:EnvRel c (zah c σ) env m s.heap) (r:VRel s.heap (zah c σ) v cv) :
  wpAny c.M A (assign te env cv) (fun z1 s'=>∃ h' tk,s'={ s with heap:=h',toks:=tk }/\ButL W s.heap h'/\St c A σ h'/\EnvRel c (zah c σ) env m₁ h') E s:=by
 cases ht with
 | one=>cases (Option.some.inj hb:(_,v)::m=m₁);exact zq3 ok hW (hk _ (.head _)) (hw _ (.head _)) st er r
 | many hn hx=>
  obtain ⟨vs,hv,rfl⟩:=Option.map_eq_some_iff.mp hb
  obtain ⟨rfl,hl⟩:=zvu hx hv
  obtain ⟨a,cs,rfl,ha,p,hsz,rs⟩:=r
  have hlen:=rs.length
  obtain ⟨h1,h2⟩:=zr5 (env:=env) hn
  refine wpAny_assign_Tuple hA p.isTuple (by simp [h1,hlen,hl]) h2 fun h' hx=>?_
  have hx':Ext s.heap h':=fun b o e=>hx b o (Nat.ne_of_lt (Heap.lt_size e)) e
  have t₁:Step c.F (zab σ) (zab σ) s { s with heap:=h' }:=.ext hx' rfl rfl
  refine wpAny_mono (zvw ok hW hp (s:={ s with heap:=h' }) hn hl hk hw (st.ext hx') (er.mono t₁.kept.wider t₁.grow.wider) (t₁.vs rs)) ?_ fun z1 z2 x=>x
  rintro _ s₂ ⟨h₂,tk₂,rfl,kb₂,st₂,er₂⟩
  exact ⟨h₂,tk₂,rfl,hx'.toL.trans kb₂,st₂,er₂⟩
theorem zft {f:Str->Bool} (m:zaf) (x:Str):(m.filter fun p=>f p.1).lookup x=if f x=true then m.lookup x else none:=by
 induction m with
 | nil=>exact (ite_self _).symm
 | cons p r ih=>
  obtain ⟨y,v⟩:=p
  rw [List.filter_cons,List.lookup_cons]
  by_cases hx:x=y
  ·subst hx
   rw [beq_self_eq_true]
   cases hf:f x with
   | true=>rw [if_pos rfl,List.lookup_cons,beq_self_eq_true];rfl
   | false=>rw [if_neg Bool.false_ne_true,ih,hf];rfl
  ·rw [beq_eq_false_iff_ne.mpr hx]
   split
   ·rw [List.lookup_cons,beq_eq_false_iff_ne.mpr hx];exact ih
   ·exact ih
def WIfs (c:Cx) (d:Nat) (sc:Scope) (ifs:List Expr) (m:zaf) (σ:Led) (P:Bool->Led->Prop):Prop:=match ifs with
 | []=>P true σ
 | [e]=>WT c d sc e m σ P NoX
 | _=>False
noncomputable def zjb (c:Cx) (d:Nat) (sc:Scope) (xs:List Str) (ifs:List Expr) (elt:Expr) (m:zaf) (Kf:List V->Led->Prop):List V->List V->Led->Prop
 | [],acc,σ=>Kf acc σ
 | v::vs,acc,σ=>∃ m₁,bnd xs v m=some m₁/\WIfs c d sc ifs m₁ σ (fun b σ₁=>if b=true then WE c d sc elt m₁ σ₁ (fun w σ₂=>zjb c d sc xs ifs elt m Kf vs (acc++[w]) σ₂) NoX else zjb c d sc xs ifs elt m Kf vs acc σ₁)
theorem zfb {M:Model} {A:Around} {E:Value->Shared->Prop} {s:Shared} {scope:Scope} {g:Addr} {cl:List (Str × Addr)} {q:Str} {env:Env} {Q:Env->Shared->Prop}
  (h:Q (newEnv scope s.heap.objs.size g (cellsFrom (s.heap.objs.size+1) scope.names cl) q none .none (some env) builtinsNs) { s with heap:=pushCells (s.heap.push { cls:=.type "dict",data:=.dict #[] }) scope.names }) :
  wpAny M A (newFunctionEnv scope g cl [] q none .none (some env)) Q E s:=by
 simp only [newFunctionEnv,Option.isSome_some,if_true]
 refine wpAny_bind (wpAny_alloc ?_)
 refine wpAny_bind (wpAny_layCells _ (fun name kind cells=>by cases hkc:kind == NameKind.cell <;> simp [hkc]) _ _ _ _ ?_)
 rw [show ({ s with heap:=s.heap.push { cls:=.type "dict",data:=.dict #[] } }:Shared).heap.objs.size=s.heap.objs.size+1 from Heap.size_push ..]
 exact wpAny_bind (wpAny_pure (wpAny_pure h))
theorem WIfs.run {ifs:List Expr} {P:Bool->Led->Prop} (h:WIfs c d sc ifs m σ P) {env:Env} {A:Around} {s:Shared} {E:Value->Shared->Prop} (r:RE c d sc m σ NoX env A s E) {Q:Bool->Shared->Prop}
  (hQ:∀ b σ' s',P b σ'->Step c.F (zab σ) (zab σ') s s'->St c A σ' s'.heap->Q b s') :
  wpAny c.M A (forIn ifs true fun c r=>if r=true then do let ok ← isTrue c env (eval c env);pure (ForInStep.yield ok) else pure (ForInStep.yield r)) Q E s:=by
 cases ifs with
 | nil=>exact wpAny_tests_nil (hQ true σ s h .refl r.st)
 | cons e1 es=>
  cases es with
  | cons _ _=>exact h.elim
  | nil=>
   refine wpAny_tests_one (wpAny_mono (h env A s E r) ?_ fun z1 z2 x=>x)
   rintro b s₅ ⟨σ₅,h₅,t₅,st₅⟩
   exact hQ b σ₅ s₅ h₅ t₅ st₅
structure CQ where
 c:Cx
 G:List Addr
 d:Nat
 A:Around
 env:Env
 S:Scope
 te:Expr
 xs:List Str
 ifs:List Expr
 elt:Expr
 m:zaf
 mb:zaf
 Kf:List V->Led->Prop
 vs:List V
 σ:Led
 s:Shared
 D:Addr
 Ws:List Addr
 I:Addr
 fp:List Addr
 wr:List Addr
 Pf:Nat->Value->Prop
 Stf:Nat->Heap->Prop
 hi:Heap
noncomputable abbrev CQ.cD (Q:CQ):Cx:=(Q.c.pro Q.G).hide Q.D
structure CQ.Ok (Q:CQ):Prop where
 a:AOk Q.c.k Q.d Q.A
 ok:zco Q.env
 sc:Q.env.scope=Q.S
 it:z7n (Q.c.pro Q.G) Q.A Q.σ Q.vs Q.s.heap Q.hi Q.I Q.fp Q.wr Q.Pf Q.Stf
 wrOk:∀ σ' h',(∀ b∈Q.wr,b∉zab σ')->(∀ b∈Q.wr,∀ o,h'.get? b=some o->¬ Frozen o)->z33 Q.cD Q.A σ' Q.wr h'
 plwr:∀ b∈places Q.env,b∉Q.wr
 loc:Q.env.locals∈Q.Ws
 Wpl:∀ b∈Q.Ws,b∈places Q.env
 Wnew:∀ b∈Q.Ws,Q.s.heap.get? b=none
 WF:∀ b∈Q.Ws,b∉(Q.c.pro Q.G).F
 DW:Q.D∉Q.Ws
 Dwr:Q.D∉Q.wr
 Dnew:Q.s.heap.get? Q.D=none
 DF:Q.D∉(Q.c.pro Q.G).F
 D0:Q.c.k.h0.get? Q.D=none
 fpD:∀ b∈Q.fp,b≠Q.D/\b∉Q.Ws
 hh:Q.A.handled=none
 tgt:zjc Q.te Q.xs
 own1:∀ x∈Q.xs,zea (Q.env.kindOf x)=true
 own2:∀ x∈Q.xs,∀ L,Q.env.kindOf x=some .cell->Q.env.cells.lookup x=some L->L∈Q.Ws
 sub:∀ v m₁,bnd Q.xs v Q.m=some m₁->∃ m₂,bnd Q.xs v Q.mb=some m₂/\Sub m₁ m₂/\Sub Q.mb m₂
structure CQ.Core0 (Q:CQ) (acc:List V) (σ':Led) (ccs:List Value) (s':Shared):Prop where
 t:Step (Q.c.pro Q.G).F (zab Q.σ) (zab σ') Q.s s'
 st:St Q.cD Q.A σ' s'.heap
 er:EnvRel Q.cD (zah Q.cD σ') Q.env Q.mb s'.heap
 pD:PlainSeq s'.heap "list" Q.D ccs
 acc:VRels s'.heap (zah Q.cD σ') acc ccs
structure CQ.Core (Q:CQ) (j:Nat) (acc:List V) (σ':Led) (ccs:List Value) (s':Shared):Prop extends CQ.Core0 Q acc σ' ccs s' where
 stf:Q.Stf j s'.heap
 wo:∀ b∈Q.wr,b∉zab σ'
section
variable {Q:CQ} {j:Nat} {acc:List V} {σ' σ₅:Led} {ccs:List Value} {s' s₅:Shared} {h':Heap} {tk:Nat}
theorem CQ.Core.wok (q:Q.Ok) (k:Q.Core j acc σ' ccs s'):z33 Q.cD Q.A σ' Q.wr s'.heap:=q.wrOk σ' _ k.wo fun b hb o e=>by
 obtain ⟨o',e',q1,q2⟩:=q.it.obj j _ k.stf b hb
 rw [e] at e';cases e';exact zd2 q1 q2
theorem CQ.Core.turn0 (q:Q.Ok) (k:Q.Core j acc σ' ccs s') (hk:ButL Q.wr s'.heap h'):Q.Core0 acc σ' ccs { s' with heap:=h',toks:=tk }:=
 ⟨k.t.writeL q.it.new (k.wok q).notF hk,k.st.writeL (k.wok q) hk,k.er.writeL (k.wok q) q.plwr hk,let ⟨n,e⟩:=k.pD;⟨n,hk _ _ q.Dwr e⟩,VRels.writeL (k.wok q).seq hk acc ccs k.acc⟩
theorem CQ.Core.set (q:Q.Ok) (k:Q.Core j acc σ' ccs s') (kb:ButL Q.Ws s'.heap h') (st:St Q.cD Q.A σ' h') (er:EnvRel Q.cD (zah Q.cD σ') Q.env Q.mb h'):Q.Core j acc σ' ccs { s' with heap:=h',toks:=tk }:=
 ⟨⟨k.t.writeL q.Wnew q.WF kb,st,er,let ⟨n,e⟩:=k.pD;⟨n,kb _ _ q.DW e⟩,k.acc.carry fun a o e ha f=>⟨kb a o (fun w=>k.er.places a (q.Wpl a w) o e f) e,ha⟩⟩,q.it.walks.frame _ _ _ k.stf fun b hb o e=>kb b o (q.fpD b hb).2 e,k.wo⟩
theorem CQ.Core.step (q:Q.Ok) (k:Q.Core j acc σ' ccs s') (t:Step (Q.c.pro Q.G).F (zab σ') (zab σ₅) s' s₅) (st:St Q.cD Q.A σ₅ s₅.heap):Q.Core j acc σ₅ ccs s₅:=by
 refine ⟨⟨k.t.trans t,st,k.er.mono t.kept.wider t.grow.wider,?_,t.vs k.acc⟩,?_,fun b hb=>?_⟩
 ·obtain ⟨n,e⟩:=k.pD
  exact ⟨n,t.kept.exact e (k.st.hid Q.D (.head _)).1 PlainSeq.notDict⟩
 ·refine q.it.walks.frame _ _ _ k.stf fun b hb o e=>?_
  rcases q.it.fp b hb with w | w | ⟨w,ob,hob,hd⟩
  ·obtain ⟨o',e',hx,_⟩:=q.it.obj _ _ k.stf b w
   rw [e] at e';cases e'
   exact t.kept.exact e (k.wo b w) (zb9 (.inl hx))
  ·exact t.prot b w o e
  ·have hob₄:s'.heap.get? b=some ob:=k.t.kept.exact hob w (zb9 (.inr hd))
   rw [hob₄] at e;cases e
   exact t.kept.exact hob₄ (k.t.grow.notin w hob) (zb9 (.inr hd))
 ·obtain ⟨o,e,_⟩:=q.it.obj _ _ k.stf b hb
  exact t.grow.notin (k.wo b hb) e
theorem CQ.Core.app (q:Q.Ok) (k:Q.Core j acc σ' ccs s') {w:V} {cx:Value} {n:Nat} (r:VRel s'.heap (zah Q.cD σ') w cx) (kb:But Q.D s'.heap h') (e:h'.get? Q.D=some { cls:=.type "list",data:=.seq (ccs++[cx]).toArray n }) :
  Q.Core j (acc++[w]) σ' (ccs++[cx]) { s' with heap:=h' }:=by
 obtain ⟨n0,e0⟩:=k.pD
 have hD:Q.D∈Q.cD.H:=.head _
 exact ⟨⟨k.t.writeL (tk:=s'.toks) (wr:=[Q.D]) (fun b hb=>by rw [List.mem_singleton.mp hb];exact q.Dnew) (fun b hb=>by rw [List.mem_singleton.mp hb];exact q.DF) (kb.toL (.head _)),k.st.writeHid hD q.D0 e0 PlainSeq.notDict kb e,k.er.writeHid hD kb,⟨n,e⟩,
  (k.acc.append (VRels.one r)).carry (kb.carriesHid (List.mem_append_left _ hD))⟩,q.it.walks.frame _ _ _ k.stf fun b hb o e=>kb b o (q.fpD b hb).1 e,k.wo⟩
inductive CQ.Inv (Q:CQ) (n:Nat) (s':Shared):Prop
 | mk (j:Nat) (acc:List V) (σ':Led) (ccs:List Value):n=Q.vs.length+1 - j->j<=Q.vs.length->ccs.length<=j->zjb Q.cD Q.d Q.S Q.xs Q.ifs Q.elt Q.m Q.Kf (Q.vs.drop j) acc σ'->Q.Core j acc σ' ccs s'->CQ.Inv Q n s'
theorem CQ.Core.inv (k:Q.Core (j+1) acc σ' ccs s') (hj:j<Q.vs.length) (hl:ccs.length<=j+1) (hW:zjb Q.cD Q.d Q.S Q.xs Q.ifs Q.elt Q.m Q.Kf (Q.vs.drop (j+1)) acc σ'):∃ m,m<Q.vs.length+1 - j/\Q.Inv m s':=
 ⟨Q.vs.length+1 - (j+1),by (exact Ar.l02 (.lt (.s (.a (.v 0) (.k 1)) (.a (.v 1) (.k 1))) (.s (.a (.v 0) (.k 1)) (.v 1))) [(.lt (.v 1) (.v 0))] (by kernel_rfl) hj),j+1,acc,σ',ccs,rfl,hj,hl,hW,k⟩
theorem CQ.elem_ (q:Q.Ok) (k:Q.Core (j+1) acc σ' ccs s') (hj:j<Q.vs.length) (hl:ccs.length<=j) {m₁:zaf} (er:EnvRel Q.cD (zah Q.cD σ') Q.env m₁ s'.heap) {E:Value->Shared->Prop}
  (hW:WE Q.cD Q.d Q.S Q.elt m₁ σ' (fun w σ₂=>zjb Q.cD Q.d Q.S Q.xs Q.ifs Q.elt Q.m Q.Kf (Q.vs.drop (j+1)) (acc++[w]) σ₂) NoX) :
  wpAny Q.c.M Q.A (eval Q.elt Q.env) (fun xv s₄=>wpAny Q.c.M Q.A (call (.builtin "list.append") [.ref Q.D,xv]) (fun z1 s₅=>∃ m,m<Q.vs.length+1 - j/\Q.Inv m s₅) E s₄) E s':=by
 refine wpAny_mono (hW Q.env Q.A s' E ⟨q.sc,q.ok,q.a,k.st,er,.nox⟩) ?_ fun z1 z2 x=>x
 rintro cx s₆ ⟨w,σ₆,h₆,t₆,hSt₆,rw'⟩
 have k₆:=k.step q t₆ hSt₆
 refine wpAny_list_append_plain k₆.pD (fun h₇ hp₇ hs₇=>?_) (Nat.le_trans hl (Nat.le_trans (Nat.le_of_lt hj) q.it.size))
 obtain ⟨n,e₇⟩:=hp₇
 exact (k₆.app q rw' (fun b o hb e=>(hs₇.2 b hb).trans e) (n:=n) (by rw [e₇];simp)).inv hj (by rw [List.length_append];exact Nat.succ_le_succ hl) h₆
theorem CQ.loop (q:Q.Ok) {R:Result->Shared->Prop} (hR:∀ acc σ' ccs s',Q.Kf acc σ'->ccs.length<=sizeLine->Q.Core0 acc σ' ccs s'->R (.ok .next) s') {iter:Expr} {scope:Scope} {pos:Pos} {n:Nat} (h:Q.Inv n s') :
  codeAny Q.c.M Q.A (.compLoop (.ListComp Q.elt [⟨Q.te,iter,Q.ifs,0⟩] scope pos) 0 (.ref Q.I) (.ref Q.D) Q.env) R s':=by
 refine zgv Q.Inv (fun n s' h=>?_) n h
 obtain ⟨j,acc,σ',ccs,rfl,hj,hl,hW,k⟩:=h
 by_cases hlt:j<Q.vs.length
 ·refine q.it.walks.item j s' _ _ hlt k.stf fun v h' tk hP hStf' hk=>?_
  have k₃:Q.Core (j+1) acc σ' ccs { s' with heap:=h',toks:=tk }:=⟨k.turn0 q fun b o hb e=>hk b o hb e,hStf',k.wo⟩
  obtain ⟨oI,hoI,hown⟩:=q.it.own _ _ hStf'
  refine zqm (s:={ s' with heap:=h',toks:=tk }) hoI hown ?_
  rw [List.drop_eq_getElem_cons hlt] at hW
  obtain ⟨m₁,hb,hW⟩:=hW
  obtain ⟨m₂,hb₂,sub₁,sub₂⟩:=q.sub _ _ hb
  have hrel:VRel h' (zah Q.cD σ') Q.vs[j] v:=by
   refine q.it.elem h' _ (fun a o e ha f=>?_) j Q.vs[j] v (List.getElem?_eq_getElem hlt) hP
   have hn:a∉zab Q.σ:=fun q=>ha (List.mem_append_right _ q)
   refine ⟨k₃.t.kept.exact e hn f.notDict,fun hm=>?_⟩
   rcases List.mem_append.mp hm with w | w
   ·rcases List.mem_cons.mp w with w | w
    ·rw [w,q.Dnew] at e;cases e
    ·exact ha (List.mem_append_left _ w)
   ·exact k₃.t.grow.notin hn e w
  refine wpAny_mono (zyu (c:=Q.cD) q.ok q.hh q.loc q.tgt hb₂ q.own1 q.own2 q.Wpl k₃.st k₃.er hrel) ?_ fun z1 z2 x=>x
  rintro _ s₄ ⟨h₄,tk₄,rfl,kb₄,hSt₄,her₄⟩
  have k₄:=k₃.set q (tk:=tk₄) kb₄ hSt₄ (her₄.sub sub₂)
  have er₄:=her₄.sub sub₁
  refine WIfs.run hW ⟨q.sc,q.ok,q.a,hSt₄,er₄,.nox⟩ fun b σ₅ s₅ h₅ t₅ st₅=>?_
  have k₅:=k₄.step q t₅ st₅
  cases b with
  | true=>exact CQ.elem_ q k₅ hlt hl (er₄.mono t₅.kept.wider t₅.grow.wider) h₅
  | false=>exact k₅.inv hlt (Nat.le_succ_of_le hl) h₅
 ·have hjl:j=Q.vs.length:=Nat.le_antisymm hj (Nat.not_lt.mp hlt)
  subst hjl
  refine q.it.walks.done s' _ _ k.stf fun h' tk hk=>?_
  rw [List.drop_length] at hW
  exact hR acc σ' ccs _ hW (Nat.le_trans hl q.it.size) (k.turn0 q fun b o hb e=>hk b o hb e)
end
structure CompK (scope sc:Scope) (xs:List Str):Prop where
 kind:scope.kind=.function
 nd:(scope.names.map (·.1)).Nodup
 deb:scope.names.lookup ("__debug__":Str)=none
 cld:scope.names.lookup ("__classdict__":Str)=none
 free:∀ x,scope.names.lookup x=some .free->zw7 (sc.names.lookup x)=true
 own:∀ x,zea (scope.names.lookup x)=true->x∈xs\/x=(".0":Str)
 tgt:∀ x∈xs,zea (scope.names.lookup x)=true
theorem z0c {l:List (Str × NameKind)} {y:Str} (k:∀ p∈l,p.1≠y):l.lookup y=none:=by
 cases q:l.lookup y with
 | none=>rfl
 | some _=>exact absurd rfl (k _ (mem_of_lookup q))
theorem zi9 {a b:Bool} (h:(a && b)=true):a=true/\b=true:=Bool.and_eq_true_iff.mp h
theorem z7t {a b:Bool} (h:(a || b)=true):a=true\/b=true:=Bool.or_eq_true_iff.mp h
theorem zyo {scope sc:Scope} {xs:List Str} (h:ze3 scope sc xs=true):CompK scope sc xs:=by
 have h0:=zi9 (zi9 h).1
 have h1:=zi9 h0.1
 have hn:=fun p hp=>zi9 (List.all_eq_true.mp h0.2 p hp)
 have hm:=fun p hp=>zi9 (hn p hp).1
 refine ⟨eq_of_beq h1.1,zci h1.2,z0c fun p hp=>bne_iff_ne.mp (zi9 (hm p hp).1).1,z0c fun p hp=>bne_iff_ne.mp (zi9 (hm p hp).1).2,fun x hx=>?_,fun x hx=>?_,List.all_eq_true.mp (zi9 h).2⟩
 ·exact (z7t (hm _ (mem_of_lookup hx)).2).resolve_left fun q=>bne_iff_ne.mp q rfl
 ·cases z:scope.names.lookup x with
  | none=>rw [z] at hx;cases hx
  | some k=>
   rw [z] at hx
   rcases z7t (hn _ (mem_of_lookup z)).2 with q | q
   ·rcases z7t q with q | q
    ·rw [hx] at q;cases q
    ·exact .inl (List.contains_iff_mem.mp q)
   ·exact .inr (eq_of_beq q)
noncomputable abbrev ocl (scope:Scope) (C:Addr):List (Str × Addr):=cellsFrom (C+1) scope.names []
noncomputable abbrev ccl (scope:Scope) (env:Env):List (Str × Addr):=zq0 env.cells scope.names []
noncomputable abbrev cWs (scope:Scope) (C:Addr):List Addr:=C::(ocl scope C).map (·.2)
noncomputable def znw (scope:Scope) (C:Addr) (env:Env):Env:={ newEnv scope C env.globals (ocl scope C++ccl scope env) env.qual none .none (some env) builtinsNs with scope:=zb5 scope env.scope }
noncomputable def cmb (scope:Scope) (m:zaf):zaf:=m.filter fun p=>!zea (scope.names.lookup p.1)
section
variable {scope:Scope} {env:Env} {xs:List Str} {C:Addr}
theorem zqj {names:List (Str × NameKind)} {k:NameKind} {x:Str}:x∈((names.filter (·.2 == k)).map (·.1)).reverse++([]:List (Str × Addr)).map (·.1) ↔ (x,k)∈names:=by
 rw [List.map_nil,List.append_nil,List.mem_reverse,List.mem_map]
 constructor
 ·rintro ⟨⟨y,z⟩,h1,rfl⟩
  have:=List.mem_filter.mp h1
  exact eq_of_beq this.2 ▸ this.1
 ·exact fun h=>⟨_,List.mem_filter.mpr ⟨h,beq_self_eq_true k⟩,rfl⟩
theorem key_oc {x:Str}:x∈(ocl scope C).map (·.1) ↔ (x,NameKind.cell)∈scope.names:=by rw [za4];exact zqj
theorem z4o {x:Str}:x∈(ccl scope env).map (·.1) ↔ (x,NameKind.free)∈scope.names:=by rw [zex];exact zqj
theorem CompK.var (K:CompK scope env.scope xs) {x:Str} (hx:scope.names.lookup x=some .free):env.kindOf x=some .cell\/env.kindOf x=some .free:=zpv (K.free x hx)
theorem zmo (K:CompK scope env.scope xs) (ok:zco env) {x:Str} {a:Addr} (hm:(x,a)∈ccl scope env):env.cells.lookup x=some a/\(x,NameKind.free)∈scope.names:=by
 rcases zk1 _ _ _ hm with q | ⟨q1,q2⟩
 ·cases q
 ·obtain ⟨b,hb⟩:=ok.cell x (K.var (zb7 K.nd q1))
  rw [hb] at q2
  exact ⟨q2 ▸ hb,q1⟩
theorem zuv {x:Str} (hx:scope.names.lookup x=some .cell):∃ a,(znw scope C env).cells.lookup x=some a/\(x,a)∈ocl scope C:=by
 obtain ⟨a,ha⟩:=zat (key_oc (C:=C).mpr (mem_of_lookup hx))
 exact ⟨a,by show (ocl scope C++ccl scope env).lookup x=_;rw [List.lookup_append,ha];rfl,mem_of_lookup ha⟩
theorem zuw (K:CompK scope env.scope xs) (ok:zco env) {x:Str} (hx:scope.names.lookup x=some .free):(znw scope C env).cells.lookup x=env.cells.lookup x:=by
 have h1:(ocl scope C).lookup x=none:=by
  cases q:(ocl scope C).lookup x with
  | none=>rfl
  | some a=>
   rw [zb7 K.nd (key_oc.mp (List.mem_map.mpr ⟨_,mem_of_lookup q,rfl⟩))] at hx;cases hx
 obtain ⟨a,ha⟩:=zat (z4o (env:=env).mpr (mem_of_lookup hx))
 show (ocl scope C++ccl scope env).lookup x=_
 rw [List.lookup_append,h1,Option.none_or,ha,(zmo K ok (mem_of_lookup ha)).1]
theorem zqn {x:Str}:(znw scope C env).kindOf x=(scope.names.lookup x).map fun k=>if (k == .free && env.scope.kind == .function && env.scope.names.lookup x == some .cell) then .cell else k:=zht
theorem zx6 {x:Str}:((znw scope C env).kindOf x=some .local->scope.names.lookup x=some .local)/\(((znw scope C env).kindOf x=some .cell\/(znw scope C env).kindOf x=some .free)->scope.names.lookup x=some .cell\/scope.names.lookup x=some .free):=by
 rw [zqn]
 cases scope.names.lookup x with
 | none=>exact ⟨id,id⟩
 | some k=>
  rw [Option.map_some]
  cases z:(k == .free && env.scope.kind == .function && env.scope.names.lookup x == some .cell) with
  | true=>
   have:=eq_of_beq (zi9 (zi9 z).1).1
   exact ⟨fun q=>(nomatch q),fun z1=>.inr (congrArg _ this)⟩
  | false=>exact ⟨id,id⟩
theorem z14 (K:CompK scope env.scope xs) (ok:zco env):zco (znw scope C env):=by
 refine ⟨K.kind,by rw [zqn,K.deb];rfl,(by rw [zqn,K.cld];exact fun q=>nomatch q),ok.globals,ok.builtins,fun x hx=>?_⟩
 rcases zx6.2 hx with q | q
 ·obtain ⟨a,ha,_⟩:=zuv (C:=C) (env:=env) q;exact ⟨a,ha⟩
 ·rw [zuw K ok q];exact ok.cell x (K.var q)
theorem CompK.own1 (K:CompK scope env.scope xs) {x:Str} (hx:x∈xs):zea ((znw scope C env).kindOf x)=true:=by
 rw [zqn]
 rcases zp6 (K.tgt x hx) with q | q <;> rw [q] <;> rfl
theorem CompK.own2 (K:CompK scope env.scope xs) {x:Str} (hx:x∈xs) {L:Addr} (hk:(znw scope C env).kindOf x=some .cell) (hl:(znw scope C env).cells.lookup x=some L):L∈cWs scope C:=by
 rcases zx6.2 (.inl hk) with q | q
 ·obtain ⟨a,ha,hm⟩:=zuv (C:=C) (env:=env) q
  rw [ha] at hl;cases hl
  exact .tail _ (List.mem_map.mpr ⟨_,hm,rfl⟩)
 ·have:=K.tgt x hx;rw [q] at this;cases this
theorem zhv {m:zaf} {x:Str}:(cmb scope m).lookup x=if zea (scope.names.lookup x)=true then none else m.lookup x:=by
 unfold cmb
 rw [zft (f:=fun x=>!zea (scope.names.lookup x))]
 cases zea (scope.names.lookup x) <;> rfl
theorem CompK.sub {sc:Scope} (K:CompK scope sc xs) {m m₁:zaf} (hdot:m.lookup (".0":Str)=none) {v:V} (hb:bnd xs v m=some m₁):∃ m₂,bnd xs v (cmb scope m)=some m₂/\Sub m₁ m₂/\Sub (cmb scope m) m₂:=by
 obtain ⟨pre,hpre,e,hnone⟩:=z15 hb
 refine ⟨pre++cmb scope m,hpre _,fun y w hy=>?_,fun y w hy=>?_⟩
 ·rw [e,List.lookup_append] at hy
  rw [List.lookup_append]
  cases q:pre.lookup y with
  | some u=>rw [q] at hy;exact hy
  | none=>
   rw [q,Option.none_or] at hy
   rw [Option.none_or,zhv]
   cases ho:zea (scope.names.lookup y) with
   | false=>exact hy
   | true=>
    rcases K.own y ho with z | z
    ·exact absurd z ((hnone y).mp q)
    ·rw [z,hdot] at hy;cases hy
 ·rw [List.lookup_append]
  cases q:pre.lookup y with
  | none=>exact hy
  | some u=>
   have hm:y∈xs:=Classical.byContradiction fun k=>by rw [(hnone y).mpr k] at q;cases q
   rw [zhv,K.tgt y hm] at hy;cases hy
theorem z48 {b:Addr} (hb:b∈cWs scope C):b∈places (znw scope C env):=by
 rcases List.mem_cons.mp hb with q | q
 ·exact q ▸ .head _
 ·obtain ⟨p,hp,rfl⟩:=List.mem_map.mp q
  exact .tail _ (List.mem_map.mpr ⟨p,List.mem_append_left _ hp,rfl⟩)
end
structure Plc (h₁ h₄:Heap) (D:Addr) (scope:Scope):Prop where
 ext:Ext h₁ h₄
 new:∀ b,D<=b->h₁.get? b=none
 list:h₄.get? D=some { cls:=.type "list",data:=.seq ([]:List Value).toArray }
 ns:h₄.Ns (D+1) fun z1=>none
 cells:CellsOk h₄ (D+1+1) (ocl scope (D+1))
theorem z4d {h₁ h₂:Heap} (x:Ext h₁ h₂) (scope:Scope):Plc h₁ (pushCells ((h₂.push { cls:=.type "list",data:=.seq ([]:List Value).toArray }).push { cls:=.type "dict",data:=.dict #[] }) scope.names) h₂.objs.size scope:=by
 generalize hl:h₂.push { cls:=.type "list",data:=.seq ([]:List Value).toArray }=h₃
 have x3:Ext h₂ h₃:=hl ▸ .push _
 have hC:h₃.objs.size=h₂.objs.size+1:=hl ▸ Heap.size_push ..
 have x4:Ext h₃ (pushCells (h₃.push { cls:=.type "dict",data:=.dict #[] }) scope.names):=fun b o e=>pushCells_keeps _ _ b o (Heap.get?_push_of_some _ e)
 refine ⟨(x.trans x3).trans x4,fun b hb=>?_,x4 _ _ (hl ▸ Heap.get?_push_size _ rfl),?_,?_⟩
 ·cases e:h₁.get? b with
  | none=>rfl
  | some o=>exact absurd hb (Nat.not_le.mpr (Heap.lt_size (x b o e)))
 ·have:=(Heap.Ns.new h₃ (.type "dict")).keeps fun b o e=>pushCells_keeps scope.names _ b o e
  rwa [hC] at this
 ·have:=cellsFrom_ok scope.names (h₃.push { cls:=.type "dict",data:=.dict #[] }) (h₂.objs.size+1+1) [] ⟨fun z1 z2 hm=>(nomatch hm),List.Pairwise.nil⟩ (by rw [Heap.size_push,hC];exact Nat.le_refl _)
  rwa [Heap.size_push,hC] at this
section
variable {scope:Scope} {env:Env} {xs:List Str} {D:Addr} {A:Around} {h₁ h₄:Heap} {G:List Addr}
theorem Plc.oc (p:Plc h₁ h₄ D scope) {x:Str} {a:Addr} (hm:(x,a)∈ocl scope (D+1)):D+1<a/\h₄.IsCell a none:=⟨(p.cells.empty x a hm).2,(p.cells.empty x a hm).1⟩
theorem Plc.ge (p:Plc h₁ h₄ D scope) {b:Addr} (hb:b∈cWs scope (D+1)):D<b:=by
 rcases List.mem_cons.mp hb with q | q
 ·exact q ▸ Nat.lt_succ_self D
 ·obtain ⟨⟨x,a⟩,hm,rfl⟩:=List.mem_map.mp q
  exact Nat.lt_of_succ_lt (p.oc hm).1
theorem Plc.cellOld (er:EnvRel c (zah c σ) env m h₁) {x:Str} {a:Addr} (hl:env.cells.lookup x=some a):∃ o,h₁.get? a=some o:=by
 obtain ⟨_,o,e,_⟩:=(er.cnot x a (mem_of_lookup hl)).2.2.2.2
 exact ⟨o,e⟩
theorem Plc.notS (p:Plc h₁ h₄ D scope) (st:St c A σ h₁) {b:Addr} (hb:D<b):b∉zah ((c.pro G).hide D) σ:=fun hm=>by
 have hn:=p.new b (Nat.le_of_lt hb)
 rcases List.mem_append.mp hm with q | q
 ·rcases List.mem_cons.mp q with q | q
  ·exact Nat.ne_of_gt hb q
  ·exact st.noH hn q
 ·exact st.noO hn q
theorem Plc.er (p:Plc h₁ h₄ D scope) (K:CompK scope env.scope xs) (ok:zco env) (st:St c A σ h₁) (hG:∀ b∈G,b∈zab σ) (er:EnvRel c (zah c σ) env m h₁):EnvRel ((c.pro G).hide D) (zah ((c.pro G).hide D) σ) (znw scope (D+1) env) (cmb scope m) h₄:=by
 have growD:Grow (zah (c.pro G) σ) (zah ((c.pro G).hide D) σ) h₁:=fun b hb=>by
  rcases List.mem_append.mp hb with q | q
  ·rcases List.mem_cons.mp q with rfl | q
   ·exact .inr (p.new _ (Nat.le_refl _))
   ·exact .inl (List.mem_append_left _ q)
  ·exact .inl (List.mem_append_right _ q)
 have erD:EnvRel (c.pro G) (zah ((c.pro G).hide D) σ) env m h₄:=(er.pro hG).mono p.ext.kept growD
 have stp:=st.pro hG
 have nw:∀ {a},D<a->h₁.get? a=none:=fun h=>p.new _ (Nat.le_of_lt h)
 refine ⟨⟨_,p.ns,fun x v hx hk=>?_⟩,fun x v hx hk=>?_,⟨p.notS st (Nat.lt_succ_self D),st.no0 (nw (Nat.lt_succ_self D)),stp.noF (nw (Nat.lt_succ_self D))⟩,fun x a hm=>?_,?_⟩
 ·rw [zhv,zx6.1 hk] at hx;cases hx
 ·rcases zx6.2 hk with q | q
  ·rw [zhv,q] at hx;cases hx
  ·rw [zhv,q] at hx
   obtain ⟨a,cv,e,hc,r⟩:=erD.cell x v hx (K.var q)
   exact ⟨a,cv,(zuw K ok q).trans e,hc,r⟩
 ·rcases List.mem_append.mp hm with q | q
  ·have:=p.oc q
   have hDa:D<a:=Nat.lt_of_succ_lt this.1
   exact ⟨p.notS st hDa,Nat.ne_of_gt this.1,st.no0 (nw hDa),stp.noF (nw hDa),none,this.2⟩
  ·have hl:=(zmo K ok q).1
   obtain ⟨h1,h2,h3,h4,v,h5⟩:=erD.cnot x a (mem_of_lookup hl)
   obtain ⟨o,e⟩:=Plc.cellOld er hl
   exact ⟨h1,fun (q:a=D+1)=>(by rw [q,nw (Nat.lt_succ_self D)] at e;cases e),h3,h4,v,h5⟩
 ·refine List.pairwise_append.mpr ⟨p.cells.apart,?_,fun u hu q hq e=>?_⟩
  ·refine zkq er.apart ?_ fun x a hm=>(zmo K ok hm).1
   rw [zex,List.map_nil,List.append_nil]
   exact (List.reverse_perm _).nodup_iff.mpr ((List.filter_sublist.map _).nodup K.nd)
  ·obtain ⟨o,he⟩:=Plc.cellOld er (zmo K ok (x:=q.1) (a:=q.2) hq).1
   rw [← e,nw (Nat.lt_of_succ_lt (p.oc (x:=u.1) (a:=u.2) hu).1)] at he;cases he
theorem Plc.pl (p:Plc h₁ h₄ D scope) (K:CompK scope env.scope xs) (ok:zco env) (er:EnvRel c (zah c σ) env m h₁) {b:Addr} (hb:b∈places (znw scope (D+1) env)):D<b\/∃ o,h₁.get? b=some o:=by
 rcases List.mem_cons.mp hb with q | q
 ·exact .inl (q ▸ Nat.lt_succ_self D)
 ·obtain ⟨⟨x,a⟩,hm,rfl⟩:=List.mem_map.mp q
  rcases List.mem_append.mp hm with q | q
  ·exact .inl (Nat.lt_of_succ_lt (p.oc q).1)
  ·exact .inr (Plc.cellOld er (zmo K ok q).1)
theorem St.hidePro {D:Addr} {h:Heap} (z:St ((c.pro G).hide D) A σ h):St (c.hide D) A σ h:=by
 obtain ⟨l,hl,hf,hd⟩:=z.frames
 exact ⟨z.keep,z.nodup,z.fresh,z.objs,⟨l,hl,hf,fun L hL=>⟨(hd L hL).1,fun q=>(hd L hL).2.1 (List.mem_append_right _ q),(hd L hL).2.2⟩⟩,fun b hb=>z.prot b (List.mem_append_right _ hb),z.hid⟩
theorem Plc.ok {s₁:Shared} {hi:Heap} (p:Plc s₁.heap h₄ D scope) (K:CompK scope env.scope xs) (ok:zco env) (hA:AOk c.k d A) (hh:A.handled=none) (st:St c A σ s₁.heap) (hG:∀ b∈G,b∈zab σ) (er:EnvRel c (zah c σ) env m s₁.heap) {te elt:Expr} {ifs:List Expr} (ht:zjc te xs) (hdot:m.lookup (".0":Str)=none) {Kf:List V->Led->Prop} {vs:List V} {I:Addr} {fp wr:List Addr} {Pf:Nat->Value->Prop} {Stf:Nat->Heap->Prop}
  (iok:z7n (c.pro G) A σ vs s₁.heap hi I fp wr Pf Stf) (hwr:∀ b∈wr,b<D):CQ.Ok ⟨c,G,d,A,znw scope (D+1) env,zb5 scope env.scope,te,xs,ifs,elt,m,cmb scope m,Kf,vs,σ,s₁,D,cWs scope (D+1),I,fp,wr,Pf,Stf,hi⟩:=by
 have stp:=st.pro hG
 have nW:∀ b∈cWs scope (D+1),s₁.heap.get? b=none:=fun b hb=>p.new b (Nat.le_of_lt (p.ge hb))
 have nD:=p.new D (Nat.le_refl _)
 refine ⟨hA,z14 K ok,rfl,iok,fun σ' h' h1 h2=>⟨h1,fun b hb=>st.no0 (iok.new b hb),fun b hb hm=>stp.noF (iok.new b hb) hm,fun b hb hm=>?_,h2,fun l hl L hL hw=>st.noL (iok.new L hw) hl hL⟩,fun b hb hw=>?_,.head _,fun b hb=>z48 hb,nW,fun b hb=>stp.noF (nW b hb),fun q=>Nat.lt_irrefl _ (p.ge q),fun q=>Nat.lt_irrefl _ (hwr D q),nD,stp.noF nD,st.no0 nD,fun b hb=>?_,hh,ht,fun x hx=>K.own1 hx,fun x hx L=>K.own2 hx,fun v m₁ hb=>K.sub hdot hb⟩
 ·rcases List.mem_cons.mp hm with q | q
  ·exact Nat.ne_of_lt (hwr b hb) q
  ·exact st.noH (iok.new b hb) q
 ·rcases p.pl K ok er hb with q | ⟨o,e⟩
  ·exact Nat.lt_asymm q (hwr b hw)
  ·rw [iok.new b hw] at e;cases e
 ·rcases iok.fp b hb with q | q | ⟨_,ob,hob,_⟩
  ·exact ⟨Nat.ne_of_lt (hwr b q),fun z=>Nat.lt_asymm (p.ge z) (hwr b q)⟩
  ·exact ⟨fun (z:b=D)=>stp.noF nD (z ▸ q),fun z=>stp.noF (nW b z) q⟩
  ·exact ⟨fun (z:b=D)=>(by rw [z,nD] at hob;cases hob),fun z=>(by rw [nW b z] at hob;cases hob)⟩
end
theorem zm1 (hh:c.k.hd=true) {elt iter te:Expr} {xs:List Str} {ifs:List Expr} {scope:Scope} {pos:Pos} (ht:zjc te xs) (hok:ze3 scope sc xs=true) (hdot:m.lookup (".0":Str)=none) {env:Env} {A:Around} {s₁:Shared} {E:Value->Shared->Prop} {σ₁:Led}
  (hsc:env.scope=sc) (ok:zco env) (hA:AOk c.k d A) (st₁:St c A σ₁ s₁.heap) (er₁:EnvRel c (zah c σ₁) env m s₁.heap) {lv:V} {vs:List V} {G:List Addr} {cl:Value} (hG:∀ b∈G,b∈zab σ₁)
  (hI:zc6 (c.pro G) σ₁ lv vs) (rl:VRel s₁.heap (zah c σ₁) lv cl) {Kf:List V->Led->Prop} (hW:∀ D,zjb ((c.pro G).hide D) d (zb5 scope sc) xs ifs elt m Kf vs [] σ₁) {RR:Value->Addr->Result->Shared->Prop}
  (hRR:∀ D C s' σ' ws ccs,Kf ws σ'->Step c.F (zab σ₁) (zab σ') s₁ s'->St (c.hide D) A σ' s'.heap->PlainSeq s'.heap "list" D ccs->ccs.length<=sizeLine->VRels s'.heap (zah (c.hide D) σ') ws ccs->
   s₁.heap.get? D=none->s₁.heap.get? C=none->C≠D->(∃ mc,s'.heap.Ns C mc)->C∉zab σ'->RR (.ref D) C (.ok .next) s') :
  wpAny c.M A (pyIter cl) (fun it s₂=>wpAny c.M A (newList []) (fun acc s₃=>wpAny c.M A (newFunctionEnv scope env.globals (zq0 env.cells scope.names []) [] env.qual none .none (some env)) (fun cenv s₄=>
   codeAny c.M A (.compStart (.ListComp elt [⟨te,iter,ifs,0⟩] scope pos) 0 it acc { cenv with scope:=relabel scope env }) (RR acc cenv.locals) s₄) E s₃) E s₂) E s₁:=by
 subst hsc
 have K:=zyo hok
 refine wpAny_mono (hI A s₁ E cl (hA.handled hh) (st₁.pro hG) rl) ?_ fun z1 z2 x=>x
 rintro it s₂ ⟨I,fp,wr,Pf,Stf,rfl,iok,hos,hgens⟩
 refine wpAny_newList ?_ (Nat.zero_le _)
 refine zfb ?_
 have p:=z4d iok.ext scope
 have hC:(s₂.heap.push { cls:=.type "list",data:=.seq ([]:List Value).toArray }).objs.size=s₂.heap.objs.size+1:=Heap.size_push ..
 have q:=p.ok K ok hA (hA.handled hh) st₁ hG er₁ (te:=te) (elt:=elt) (ifs:=ifs) ht hdot (Kf:=Kf) iok fun b hb=>by
  obtain ⟨o,e,_⟩:=iok.obj 0 _ iok.start b hb
  exact Heap.lt_size e
 have hst:St ((c.pro G).hide s₂.heap.objs.size) A σ₁ _:=(st₁.pro hG).hideNew p.ext (p.new _ (Nat.le_refl _)) p.list
 have her:=p.er K ok st₁ hG er₁
 dsimp only
 rw [hC,zc0]
 show codeAny c.M A (.compStart (.ListComp elt [⟨te,iter,ifs,0⟩] scope pos) 0 (.ref I) (.ref s₂.heap.objs.size) (znw scope (s₂.heap.objs.size+1) env)) (RR (.ref s₂.heap.objs.size) (s₂.heap.objs.size+1)) _
 have hstf:=iok.walks.frame 0 s₂.heap _ iok.start fun b z1 o e=>pushCells_keeps scope.names _ b o (Heap.get?_push_of_some { cls:=.type "dict",data:=.dict #[] } (Heap.get?_push_of_some { cls:=.type "list",data:=.seq ([]:List Value).toArray } e))
 generalize hh₄:pushCells ((s₂.heap.push { cls:=.type "list",data:=.seq ([]:List Value).toArray }).push { cls:=.type "dict",data:=.dict #[] }) scope.names=h₄ at *
 generalize hD:s₂.heap.objs.size=D at *
 clear hh₄ hD hC
 have loop:codeAny c.M A (.compLoop (.ListComp elt [⟨te,iter,ifs,0⟩] scope pos) 0 (.ref I) (.ref D) (znw scope (D+1) env)) (RR (.ref D) (D+1)) { s₂ with heap:=h₄ }:=by
  refine CQ.loop q (fun acc σ' ccs s' hk hl k=>?_) (n:=vs.length+1) ⟨0,[],σ₁,[],rfl,Nat.zero_le _,Nat.le_refl _,hW D,⟨⟨p.ext.kept,fun b o e=>⟨o,p.ext b o e⟩,fun b z1 o e=>p.ext b o e,.refl,hos,hgens⟩,hst,her,⟨_,p.list⟩,rfl⟩,hstf,fun b hb hm=>?_⟩
  ·refine hRR D (D+1) _ σ' acc ccs hk k.t.unpro k.st.hidePro k.pD hl k.acc (p.new D (Nat.le_refl _)) (p.new _ (Nat.le_succ D)) (Nat.succ_ne_self D) ?_ fun q=>k.er.lnot.1 (List.mem_append_right _ q)
   obtain ⟨mc,hn,_⟩:=k.er.ns;exact ⟨mc,hn⟩
  ·obtain ⟨o,e⟩:=st₁.there hm;rw [iok.new b hb] at e;cases e
 exact codeAny_compStart_list loop (iok.walks.self 0 _ _ _ hstf loop)
end Mine
end
section
namespace Mine
open PySem
variable {c:Cx} {d:Nat} {sc:Scope} {m:zaf} {σ:Led} {P:V->Led->Prop} {X:XP} {K:Fl->zaf->Led->Prop}
def zss (F:List Addr) (loc:Bool) (P:V->Led->Prop) (ws:List V) (σ:Led):Prop:=if loc=true then ∀ a,a∉zab σ->a∉F->P (.ref a) ((a,.list ws)::σ) else P (.lst ws) σ
inductive z52 (c:Cx) (P:V->Led->Prop) (A:Around) (own:List Addr) (D:Addr) (σ':Led) (s s':Shared):Prop
 | mk (v:V) (σ'':Led):P v σ''->Step c.F own (zab σ'') s s'->St c A σ'' s'.heap->VRel s'.heap (zah c σ'') v (.ref D)->(∀ b∈zab σ'',b=D\/b∈zab σ')->z52 c P A own D σ' s s'
theorem zmp {A:Around} {s s':Shared} {own:List Addr} {D:Addr} {ws:List V} {ccs:List Value} {σ':Led} {loc:Bool} (hp:zss c.F loc P ws σ') (t:Step c.F own (zab σ') s s') (hD0:s.heap.get? D=none) (h0:c.k.h0.get? D=none) (hDH:D∉c.H) (hDF:D∉c.F)
  (st:St (c.hide D) A σ' s'.heap) (hpl:PlainSeq s'.heap "list" D ccs) (hl:ccs.length<=sizeLine) (rs:VRels s'.heap (zah (c.hide D) σ') ws ccs) :
  z52 c P A own D σ' s s':=by
 have hno:=(st.hid D (.head _)).1
 cases loc with
 | false=>
  refine ⟨.lst ws,σ',hp,t,st.unhide,?_,fun b hb=>.inr hb⟩
  simp only [VRel]
  exact ⟨D,ccs,rfl,fun q=>(List.mem_append.mp q).elim hDH hno,hpl,hl,VRels.mono Kept.refl (fun b hb=>.inl (List.mem_cons_of_mem _ hb)) _ _ rs⟩
 | true=>
  refine ⟨.ref D,(D,.list ws)::σ',hp D hno hDF,⟨t.kept,t.there,t.prot,fun b hb=>?_,t.os,t.gens⟩,?_,by simp only [VRel],fun b hb=>(List.mem_append.mp hb).imp (fun q=>by simpa [O.addrs] using q) id⟩
  ·rcases List.mem_append.mp hb with q | q
   ·simp only [O.addrs,List.mem_singleton] at q;subst q;exact .inr hD0
   ·exact t.grow b q
  ·have gw:Grow (zah (c.hide D) σ') (zah c ((D,.list ws)::σ')) s'.heap:=fun b hb=>by
    rcases List.mem_append.mp hb with q | q
    ·exact .inl (List.mem_append_left _ (List.mem_cons_of_mem _ q))
    ·rcases List.mem_append.mp q with q | q
     ·simp only [O.addrs,List.mem_singleton] at q;subst q;exact .inl (List.mem_append_left _ (.head _))
     ·exact .inl (List.mem_append_right _ q)
   obtain ⟨l,hl',hf,hd⟩:=st.frames
   refine ⟨st.keep,?_,?_,?_,⟨l,hl',hf,fun L hL=>⟨fun q=>?_,(hd L hL).2⟩⟩,st.prot,fun b hb=>⟨fun q=>?_,(st.hid b (List.mem_cons_of_mem _ hb)).2⟩⟩
   ·refine List.nodup_append.mpr ⟨by simp [O.addrs],st.nodup,fun b hb b' hb' e=>?_⟩
    simp only [O.addrs,List.mem_singleton] at hb;subst hb;subst e;exact hno hb'
   ·intro b hb
    rcases List.mem_append.mp hb with q | q
    ·simp only [O.addrs,List.mem_singleton] at q;subst q;exact h0
    ·exact st.fresh b q
   ·intro a o hm
    rcases List.mem_cons.mp hm with q | q
    ·cases q;exact ⟨ccs,hpl,hl,VRels.mono Kept.refl gw _ _ rs⟩
    ·exact (st.objs a o q).mono Ext.refl gw
   ·rcases List.mem_append.mp q with q | q
    ·simp only [O.addrs,List.mem_singleton] at q;subst q
     obtain ⟨n,e⟩:=hpl
     exact PlainSeq.notDict ((hd L hL).2.2 _ e)
    ·exact (hd L hL).1 q
   ·rcases List.mem_append.mp q with q | q
    ·simp only [O.addrs,List.mem_singleton] at q;subst q;exact hDH hb
    ·exact (st.hid b (List.mem_cons_of_mem _ hb)).1 q
theorem zdj {scope:Scope} {xs:List Str} (h:ze3 scope sc xs=true):scope.kind=.function/\(∀ x∈scope.names,x.2=.local->scope.names.lookup x.1=some .local)/\∀ p∈scope.names,p.2=.free->zw7 (sc.names.lookup p.1)=true:=by
 simp only [ze3,Bool.and_eq_true,beq_iff_eq,List.all_eq_true,bne_iff_ne,ne_eq,Bool.or_eq_true,Bool.not_eq_true',List.contains_eq_mem,decide_eq_true_eq] at h
 obtain ⟨⟨⟨hkind,hnd⟩,hnames⟩,_⟩:=h
 refine ⟨hkind,fun x hx hk=>?_,fun p hp hk=>?_⟩
 ·rw [← hk];exact zb7 (zci hnd) hx
 ·exact (hnames p hp).1.2.elim (absurd hk) id
theorem zj7 {scope:Scope} {env:Env} {xs:List Str} (ok:zco env) (h:ze3 scope env.scope xs=true):closureFor scope env=pure (zq0 env.cells scope.names []):=
 zle fun p hp hk=>ok.cell p.1 (zpv ((zdj h).2.2 p hp hk))
theorem St.atC {c₀:Cx} (hk0:c.k=c₀.k) (hF0:c.F=c₀.F) {A:Around} {s₁ s':Shared} {C:Addr} {h':Heap} {σ' σ₁:Led} (st₁:St c₀ A σ₁ s₁.heap) (hC:s₁.heap.get? C=none) (hno:C∉zab σ') (hH:C∉c.H) (hn:∃ mc,s'.heap.Ns C mc) (hs:Heap.SameBut C s'.heap h'):z33 c A σ' [C] s'.heap/\ButL [C] s'.heap h':=by
 refine ⟨⟨fun b hb=>by rw [List.mem_singleton.mp hb];exact hno,fun b hb=>?_,fun b hb hm=>?_,fun b hb=>by rw [List.mem_singleton.mp hb];exact hH,fun b hb o e=>?_,fun l hl L hL hm=>?_⟩,fun b o hb e=>(hs.2 b fun q=>hb (by simp [q])).trans e⟩
 ·rw [List.mem_singleton.mp hb,hk0]
  exact st₁.no0 hC
 ·rw [List.mem_singleton.mp hb,hF0] at hm
  exact st₁.noF hC hm
 ·rw [List.mem_singleton.mp hb] at e
  obtain ⟨mc,o',es,ep,e',hd,_⟩:=hn
  rw [e] at e';cases e';exact zch hd
 ·rw [List.mem_singleton.mp hm] at hL
  exact st₁.noL hC hl hL
theorem zgh (hh:c.k.hd=true) {loc:Bool} {elt iter te:Expr} {ys:List Str} {ifs:List Expr} {scope:Scope} {pos:Pos} (ht:zjc te ys) (hok:ze3 scope sc ys=true) (hdot:m.lookup (".0":Str)=none)
  (h:WE c d sc iter m σ (fun lv σ₁=>∃ vs G,(∀ b∈G,b∈zab σ₁)/\zc6 (c.pro G) σ₁ lv vs/\∀ D,zjb ((c.pro G).hide D) d (zb5 scope sc) ys ifs elt m (zss c.F loc P) vs [] σ₁) X)
  (hs:∀ env x,foldedSetIterable iter env x=pure x):WE c d sc (.ListComp elt [⟨te,iter,ifs,0⟩] scope pos) m σ P X:=by
 intro env A s E r
 obtain ⟨hkind,hloc,_⟩:=zdj hok
 rw [eval_ListComp]
 refine wpAny_comprehension_free (use:=none) rfl (hs env) (zj7 (xs:=ys) r.ok (by rw [r.sc];exact hok)) hkind hloc (wpAny_mono (h env A s E r) ?_ fun z1 z2 x=>x)
 rintro cl s₁ ⟨lv,σ₁,⟨vs,G,hG,hI,hW⟩,t₁,hs₁,rl⟩
 have er₁:=r.er.mono t₁.kept.wider t₁.grow.wider
 refine zm1 hh ht hok hdot r.sc r.ok r.a hs₁ er₁ hG hI rl hW (RR:=fun acc C=>compPost c.M A E none (Post c A σ s P) acc C) ?_
 intro D C s' σ' ws ccs hk hst hSt hpl hl hrs hDn hCn hCD hns hCo
 refine ⟨hns.choose,hns.choose_spec,fun h' hsb=>?_⟩
 have hCH:C∉(c.hide D).H:=fun q=>by
  rcases List.mem_cons.mp q with q | q
  ·exact hCD q
  ·exact hs₁.noH hCn q
 have hDH:D∉c.H:=hs₁.noH hDn
 have hDF:D∉c.F:=hs₁.noF hDn
 have hD0:c.k.h0.get? D=none:=hs₁.no0 hDn
 obtain ⟨wok,kb⟩:=St.atC (c:=c.hide D) (c₀:=c) rfl rfl hs₁ hCn hCo hCH hns hsb
 have hst':Step c.F (zab σ₁) (zab σ') s₁ { s' with heap:=h' }:=hst.writeL (tk:=s'.toks) (fun b hb=>by rw [List.mem_singleton.mp hb];exact hCn) (fun b hb hm=>wok.notF b hb hm) kb
 have hpl':PlainSeq h' "list" D ccs:=let ⟨k,e⟩:=hpl;⟨k,kb D _ (fun q=>hCD (List.mem_singleton.mp q).symm) e⟩
 obtain ⟨v,σ'',h1,h2,h3,h4,_⟩:=zmp (s:=s₁) (s':={ s' with heap:=h' }) hk hst' hDn hD0 hDH hDF (hSt.writeL wok kb) hpl' hl (VRels.writeL wok.seq kb _ _ hrs)
 exact ⟨v,σ'',h1,t₁.trans h2,h3,h4⟩
theorem zeg (hh:c.k.hd=true) {loc:Bool} {elt iter te:Expr} {ys:List Str} {ifs:List Expr} {scope:Scope} {pos px p:Pos} {x:Str} (ht:zjc te ys) (hok:ze3 scope sc ys=true) (hdot:m.lookup (".0":Str)=none)
  (hsw:(sc.names.lookup x == some .local && px.line == pos.line && !(scope.names.any fun (n,k)=>n == x && (k == .local || k == .cell)))=true) (hx:zk3 sc x=true)
  (h:WE c d sc iter m σ (fun lv σ₁=>∃ vs G,(∀ b∈G,b∈zab σ₁)/\zc6 (c.pro G) σ₁ lv vs/\∀ D,zjb ((c.pro G).hide D) d (zb5 scope sc) ys ifs elt m (zss c.F loc fun v σ'=>K .next ((x,v)::m) σ') vs [] σ₁) X)
  (hs:∀ env x,foldedSetIterable iter env x=pure x):WS c d sc (.Assign [.Name x px] (.ListComp elt [⟨te,iter,ifs,0⟩] scope pos) p) m σ K X:=by
 intro env A s E r
 obtain ⟨hkind,hloc,_⟩:=zdj hok
 have hsw':swapsWith (.ListComp elt [⟨te,iter,ifs,0⟩] scope pos) (some (.Name x px)) p.line env=pure true:=by
  have e:swapsWith (.ListComp elt [⟨te,iter,ifs,0⟩] scope pos) (some (.Name x px)) p.line env=pure (env.blockKind == .function && env.kindOf x == some .local && px.line == pos.line && !(scope.names.any fun (n,k)=>n == x && (k == .local || k == .cell))):=rfl
  rw [e]
  have hb:env.blockKind=.function:=by unfold Env.blockKind;rw [r.ok.kind];rfl
  simp only [Bool.and_eq_true] at hsw
  unfold Env.kindOf
  rw [hb,r.sc,hsw.1.1,hsw.1.2,hsw.2];rfl
 rw [exec_Assign_Name_used _ _ _ _ hsw']
 refine wpAny_bind (wpAny_standAt (wpAny_bind ?_))
 show wpAny _ _ (do let _ ← comprehension (.ListComp elt [⟨te,iter,ifs,0⟩] scope pos) scope env _ (newList []) false (eval iter env) (some _)) _ _ _
 refine wpAny_bind ?_
 refine wpAny_comprehension_free (use:=some (assign (.Name x px) env)) rfl (hs env) (zj7 (xs:=ys) r.ok (by rw [r.sc];exact hok)) hkind hloc (wpAny_mono (h env A s E r.re) ?_ fun z1 z2 x=>x)
 rintro cl s₁ ⟨lv,σ₁,⟨vs,G,hG,hI,hW⟩,t₁,hs₁,rl⟩
 have er₁:=r.er.mono t₁.kept.wider t₁.grow.wider
 refine zm1 hh ht hok hdot r.sc r.ok r.a hs₁ er₁ hG hI rl hW (RR:=fun acc C=>compPost c.M A E (some (assign (.Name x px) env)) (fun z1 s'=>wpAny c.M A (pure ()) (fun z1 s'=>wpAny c.M A (pure Flow.next) (PostS c A env σ s K) E s') E s') acc C) ?_
 intro D C s' σ' ws ccs hk hst hSt hpl hl hrs hDn hCn hCD hns hCo
 have hCH:C∉c.H:=hs₁.noH hCn
 have hDH:D∉c.H:=hs₁.noH hDn
 have hDF:D∉c.F:=hs₁.noF hDn
 have hD0:c.k.h0.get? D=none:=hs₁.no0 hDn
 obtain ⟨v,σ'',h1,h2,h3,h4,h5⟩:=zmp (s:=s₁) (s':=s') hk hst hDn hD0 hDH hDF hSt hpl hl hrs
 have er':=er₁.mono h2.kept.wider h2.grow.wider
 show wpAny _ _ (assign (.Name x px) env (.ref D)) _ _ _
 refine wpAny_assign_Name (wpAny_mono (zcp r.ok h3 er' h4 (by unfold Env.kindOf;rw [r.sc];exact zfu hx)) ?_ fun z1 z2 x=>x)
 rintro _ s₄ ⟨⟨t₄,hs₄,er₄⟩,L,hL',tk,rfl,kbL,hL⟩
 have hCL:C≠L:=fun q=>by
  obtain ⟨mc,⟨oL,_,_,e,_⟩,_⟩:=er₁.ns
  rcases hL with ⟨_,hL⟩ | ⟨_,hL⟩
  ·rw [← hL,← q,hCn] at e;cases e
  ·obtain ⟨_,_,_,_,v',oc,e',_⟩:=er₁.cnot x L (mem_of_lookup hL)
   rw [← q,hCn] at e';cases e'
 have hCo'':C∉zab σ'':=fun q=>(h5 C q).elim hCD hCo
 obtain ⟨mc,oC,es,ep,eC,hdC,hrest⟩:=hns
 refine ⟨mc,⟨oC,es,ep,kbL C oC hCL eC,hdC,hrest⟩,fun h' hsb=>?_⟩
 obtain ⟨wok,kb⟩:=St.atC (c:=c) (c₀:=c) (s':={ s' with heap:=hL',toks:=tk }) rfl rfl hs₁ hCn hCo'' hCH ⟨mc,oC,es,ep,kbL C oC hCL eC,hdC,hrest⟩ hsb
 refine wpAny_pure (wpAny_pure ?_)
 have t₁₄:Step c.F (places env++zab σ₁) (places env++zab σ'') s₁ { s' with heap:=hL',toks:=tk }:=h2.wider.trans t₄
 have t₁₅:=t₁₄.writeL (tk:=tk) (wr:=[C]) (fun b hb=>by rw [List.mem_singleton.mp hb];exact hCn) (fun b hb hm=>wok.notF b hb hm) kb
 refine ⟨.next,_,σ'',h1,t₁.wider.trans t₁₅,hs₄.writeL wok kb,er₄.writeL wok (fun b hb hC=>?_) kb,rfl⟩
 rw [List.mem_singleton.mp hC] at hb
 simp only [places,List.mem_cons,List.mem_map] at hb
 rcases hb with q | ⟨⟨z,a⟩,hm,q⟩
 ·obtain ⟨mc,⟨oL,_,_,e,_⟩,_⟩:=er₁.ns;rw [← q,hCn] at e;cases e
 ·obtain ⟨_,_,_,_,v',oc,e',_⟩:=er₁.cnot z a hm
  dsimp only at q;rw [q,hCn] at e';cases e'
theorem zrm {elt t iter:Expr} {ifs:List Expr} {scope:Scope} {pos px:Pos} {line:Nat} {x:Str} (hx:(sc.names.lookup x == some .local)=false):∀ env,env.scope=sc->swapsWithSole [.Name x px] (.ListComp elt [⟨t,iter,ifs,0⟩] scope pos) line env=pure false:=by
 intro env he
 have e:swapsWithSole [.Name x px] (.ListComp elt [⟨t,iter,ifs,0⟩] scope pos) line env=pure (env.blockKind == .function && env.kindOf x == some .local && px.line == pos.line && !(scope.names.any fun (n,k)=>n == x && (k == .local || k == .cell))):=rfl
 rw [e];unfold Env.kindOf;rw [he,hx];simp
theorem IterOwn.of {o:Obj} {T:String} (h:o.cls=.type T) (hT:["enumerate","zip","dict_itemiterator","dict_reverseitemiterator","odict_iterator","itertools.zip_longest","itertools.pairwise"].contains T=false):IterOwn o:=fun n e=>by
 rw [h] at e;cases e;exact hT
theorem znc {lv:V} {vs:List V} (hl:∀ {A:Around} {h:Heap} {cv:Value},St c A σ h->VRel h (zah c σ) lv cv->∃ a cs,cv=.ref a/\PlainSeq h "list" a cs/\cs.length<=sizeLine/\VRels h (zah c σ) vs cs/\(a∉zab σ\/a∈c.F)):zc6 c σ lv vs:=by
 intro A s E cv hh st r
 obtain ⟨a,cs,rfl,p,hsz,rs,ha⟩:=hl st r
 have hlt:a<s.heap.objs.size:=by obtain ⟨n,e⟩:=p;exact Heap.lt_size e
 have hsize:cs.toArray.size=vs.length:=by rw [List.size_toArray,rs.length]
 have W:=Walks.list (prog:=c.k.prog) (w:=c.k.w) hh s.heap.objs.size a (Nat.ne_of_lt hlt) cs.toArray
 rw [hsize] at W
 refine wpAny_pyIter_list p.isList ⟨_,[s.heap.objs.size,a],[s.heap.objs.size],_,_,rfl,⟨W,by rw [← rs.length];exact hsz,⟨⟨_,Heap.get?_push_size _ rfl,rfl,rfl⟩,p.isList.push _⟩,.push _,fun b hb=>?_,fun i h hst b hb=>?_,fun i h hst=>?_,fun b hb=>?_,fun h' own' k i v x hv hx=>?_⟩,rfl,rfl⟩
 ·rw [List.mem_singleton.mp hb];exact get?_size _
 ·rw [List.mem_singleton.mp hb]
  obtain ⟨⟨o,ho,hc,hd⟩,_⟩:=hst
  exact ⟨o,ho,⟨_,hd⟩,by rw [hc];decide⟩
 ·obtain ⟨⟨o,ho,hc,hd⟩,_⟩:=hst
  exact ⟨o,ho,.of hc (by decide)⟩
 ·rcases List.mem_cons.mp hb with q | q
  ·left;rw [q];exact .head _
  ·right
   rw [List.mem_singleton.mp q]
   rcases ha with ha | ha
   ·right
    obtain ⟨n,e⟩:=p
    exact ⟨ha,_,e,_,_,rfl⟩
   ·left;exact ha
 ·have rs':=rs.carry k
  obtain ⟨cx,hcx,rx⟩:=rs'.get hv
  have hx:cs.toArray[i]?=some x:=hx
  simp only [List.getElem?_toArray] at hx
  rw [hcx] at hx;cases hx;exact rx
theorem zau {vs:List V}:zc6 c σ (.lst vs) vs:=znc fun st r=>by
 simp only [VRel] at r
 obtain ⟨a,cs,e,ha,p,hsz,rs⟩:=r
 exact ⟨a,cs,e,p,hsz,rs,.inl fun q=>ha (List.mem_append_right _ q)⟩
theorem zdy {a:Addr} {vs:List V} (hl:σ.lookup a=some (.list vs)) (hF:a∈c.F):zc6 c σ (.ref a) vs:=znc fun st r=>by
 simp only [VRel] at r
 obtain ⟨cs,p,hl',r'⟩:=st.objs _ _ (zad hl)
 exact ⟨a,cs,r,p,hl',r',.inr hF⟩
noncomputable def zcf (lo hi:Int):List Int:=(List.range (hi - lo).toNat).map fun k=>lo+(k:Nat)
theorem zes (lo hi:Int):(zcf lo hi).length=(hi - lo).toNat:=by simp [zcf]
theorem zko (lo hi:Int):Builtin.Range.rangeSize lo hi 1=((hi - lo).toNat:Int):=by
 unfold Builtin.Range.rangeSize
 by_cases h:lo<hi
 ·simp only [show (1:Int) > 0 by decide,if_true,h,Int.ediv_one];rw [Int.sub_add_cancel];exact (Int.toNat_of_nonneg (Int.le_of_lt (Int.sub_pos.mpr h))).symm
 ·simp only [show (1:Int) > 0 by decide,if_true,h,if_false];rw [Int.toNat_of_nonpos (Int.sub_nonpos_of_le (Int.not_lt.mp h))];rfl
theorem zll {lo hi:Int} (h1:-1000000000000000<=lo) (h1':lo<=1000000000000000) (h2:-1000000000000000<=hi) (h2':hi<=1000000000000000) (h3:hi - lo<=16777216):zc6 c σ (.rng lo hi) ((zcf lo hi).map .int):=by
 intro A s E cv hh st r
 simp only [VRel] at r
 obtain ⟨a,t,u,v,rfl,ha,e⟩:=r
 have hlen:((zcf lo hi).map V.int).length=(hi - lo).toNat:=by rw [List.length_map,zes]
 have W:=Walks.range (prog:=c.k.prog) (w:=c.k.w) hh s.heap.objs.size lo 1 (hi - lo).toNat
 rw [← hlen] at W
 have hsm:Builtin.Range.small lo hi 1=true:=small_one (by lia) (by lia) (by lia) (by lia)
 refine wpAny_pyIter_range e hsm ⟨_,[s.heap.objs.size],[s.heap.objs.size],_,_,rfl,⟨W,by rw [hlen,sizeLine_eq];lia,?_,.push _,fun b hb=>?_,fun i h hst b hb=>?_,fun i h hst=>?_,fun b hb=>.inl hb,fun h' own' k i w x hv hx=>?_⟩,rfl,rfl⟩
 ·show IsRangeIter _ _ _ _ _
  rw [hlen,zko]
  simp only [Int.ofNat_zero,Int.zero_mul,Int.add_zero,Int.sub_zero,Int.natCast_zero]
  exact Heap.get?_push_size _ rfl
 ·rw [List.mem_singleton.mp hb];exact get?_size _
 ·rw [List.mem_singleton.mp hb];exact ⟨_,hst,⟨_,rfl⟩,show Value.type "range_iterator"≠.type "range" by decide⟩
 ·exact ⟨_,hst,.of rfl (by decide)⟩
 ·obtain ⟨t,rfl⟩:=hx
  rw [List.getElem?_map] at hv
  cases q:(zcf lo hi)[i]? with
  | none=>rw [q] at hv;cases hv
  | some z=>
   rw [q] at hv
   simp only [Option.map_some,Option.some.injEq] at hv
   subst hv
   simp only [zcf,List.getElem?_map] at q
   cases q2:(List.range (hi - lo).toNat)[i]? with
   | none=>rw [q2] at q;cases q
   | some y=>
    rw [q2] at q
    have hy:y=i:=by
     obtain ⟨hi',hy⟩:=List.getElem?_eq_some_iff.mp q2
     rw [List.getElem_range] at hy;exact hy.symm
    subst hy
    simp only [Option.map_some,Option.some.injEq] at q
    subst q
    simp only [VRel,Int.mul_one]
    exact ⟨t,rfl⟩
noncomputable def ztw (x:Str):List V:=x.cps.toList.map fun k=>.str ⟨#[k]⟩
theorem zrd {x:Str} (hsz:x.length<=sizeLine):zc6 c σ (.str x) (ztw x):=by
 intro A s E cv hh st r
 simp only [VRel] at r
 obtain ⟨t,rfl⟩:=r
 have hlen:(ztw x).length=x.cps.size:=by simp [ztw]
 have elem:∀ (h':Heap) (own':List Addr) i v y,(ztw x)[i]?=some v->SignAt x i y->VRel h' own' v y:=fun h' own' i v y hv hx=>by
  obtain ⟨k,u,hk,rfl⟩:=hx
  simp only [ztw,List.getElem?_map,Array.getElem?_toList,hk,Option.map_some,Option.some.injEq] at hv
  subst hv
  simp only [VRel];exact ⟨u,rfl⟩
 cases hasc:x.cps.all (·<128)
 ·have W:=Walks.strWide (prog:=c.k.prog) (w:=c.k.w) hh s.heap.objs.size x t
  rw [← hlen] at W
  refine wpAny_pyIter_wide hasc ⟨_,_,_,_,_,rfl,⟨W,by rw [hlen];exact hsz,⟨_,Heap.get?_push_size _ rfl,rfl,rfl⟩,.push _,fun b hb=>?_,fun i h hst b hb=>?_,fun i h hst=>?_,fun b hb=>.inl hb,fun h' own' z1=>elem h' own'⟩,rfl,rfl⟩
  ·rw [List.mem_singleton.mp hb];exact get?_size _
  ·rw [List.mem_singleton.mp hb]
   obtain ⟨o,ho,hc,hd⟩:=hst
   exact ⟨o,ho,⟨_,hd⟩,by rw [hc];decide⟩
  ·obtain ⟨o,ho,hc,hd⟩:=hst
   exact ⟨o,ho,.of hc (by decide)⟩
 ·have W:=Walks.strAscii (prog:=c.k.prog) (w:=c.k.w) hh s.heap.objs.size x t
  rw [← hlen] at W
  refine wpAny_pyIter_ascii hasc ⟨_,_,_,_,_,rfl,⟨W,by rw [hlen];exact hsz,⟨_,Heap.get?_push_size _ rfl,rfl,rfl⟩,.push _,fun b hb=>?_,fun i h hst b hb=>?_,fun i h hst=>?_,fun b hb=>.inl hb,fun h' own' z1=>elem h' own'⟩,rfl,rfl⟩
  ·rw [List.mem_singleton.mp hb];exact get?_size _
  ·rw [List.mem_singleton.mp hb]
   obtain ⟨o,ho,hc,hd⟩:=hst
   exact ⟨o,ho,⟨_,hd⟩,by rw [hc];decide⟩
  ·obtain ⟨o,ho,hc,hd⟩:=hst
   exact ⟨o,ho,.of hc (by decide)⟩
end Mine
end
section
namespace Mine
open PySem
variable {c:Cx} {d:Nat} {sc:Scope} {m:zaf} {σ:Led} {P:V->Led->Prop} {X:XP}
def Callee (c:Cx) (f:Value):Prop:=(∃ id,f=.builtin id)\/(∃ T,f=.type T)\/(∃ a o fd,f=.ref a/\c.k.h0.get? a=some o/\o.data=.func fd)\/∃ C N mN,f=.ref C/\PyProof.Rows.ClsAt c.k.h0 C N mN
theorem Callee.b {id:String}:Callee c (.builtin id):=.inl ⟨_,rfl⟩
theorem Callee.t {T:String}:Callee c (.type T):=.inr (.inl ⟨_,rfl⟩)
inductive ClsQ (h:Heap) (C N:Addr):Prop
 | mk (nm:_) (q:_) (bs:_) (sn:_) (sub:_) (col:_) (dd:_) (k0:_) (k1:_) (k2:_) (k3:_) (k5:_):h.get? C=some (excClassObj nm q C N bs [.type "object"] true sn sub false col dd k0 k1 k2 k3 k5 "object.__new__")->ClsQ h C N
theorem ClsQ.of {h:Heap} {C N:Addr} {mN:Str->Option Value} (K:PyProof.Rows.ClsAt h C N mN):ClsQ h C N:=by
 obtain ⟨nm,q,bs,sn,sub,col,dd,k0,k1,k2,k3,k5,e⟩:=K.obj
 exact ⟨nm,q,bs,sn,sub,col,dd,k0,k1,k2,k3,k5,e⟩
theorem FnAt.callee {f:Value} {names:List Str} {body:List Stmt} (h:FnAt c f names body sc):Callee c f:=by
 obtain ⟨a,o,fd,e,h1,h2,_⟩:=h.at_
 exact .inr (.inr (.inl ⟨a,o,fd,e,h1,h2⟩))
theorem zbz {M:Model} {A:Around} {E:Value->Shared->Prop} {s:Shared} {f:Value} {args:List (Bool × Sem Value)} {Q:Args->Shared->Prop} (hp:args.any (·.1)=false)
  (h:wpAny M A (spliced args) (fun vs s'=>Q ⟨vs,[]⟩ s') E s):wpAny M A (evalArgs f true args []) Q E s:=by
 rcases args with _ | ⟨⟨b,x⟩,rest⟩
 ·unfold evalArgs
  show wpAny M A (spliced [] >>= _) Q E s
  refine wpAny_bind (wpAny_mono h (fun vs s' h'=>?_) fun z1 z2 x=>x)
  refine wpAny_bind (wpAny_pure (wpAny_holding ?_))
  exact wpAny_bind (wpAny_pure (wpAny_bind (wpAny_pure (wpAny_pure h'))))
 ·simp only [List.any_cons,Bool.or_eq_false_iff] at hp
  obtain ⟨rfl,_⟩:=hp
  exact Calls.evalArgs_plain h
theorem zlf {M:Model} {A:Around} {E:Value->Shared->Prop} {s:Shared} {pos:Pos} {T:String} {first:List Value} {args:List (Bool × Sem Value)} {Q:Value->Shared->Prop} (hplain:args.any (·.1)=false)
  (h:wpAny M A (evalArgs (.type T) true args []) (fun a s₁=>wpAny M A (call (.type T) (first++a.pos) a.kw) Q E s₁) E s) :
  wpAny M A (callWith pos (.type T) first args []) Q E s:=by
 unfold callWith
 refine wpAny_bind (wpAny_holding (wpAny_mono h (fun a s₁ h₁=>wpAny_bind (wpAny_standAt ?_)) fun z1 z2 x=>x))
 simp only [hplain,List.any_nil,Bool.or_false]
 refine wpAny_bind (wpAny_pure ?_)
 exact wpAny_bind (wpAny_mono h₁ (fun r s₂ hr=>wpAny_bind (wpAny_holding (wpAny_point (wpAny_pure hr)))) fun z1 z2 x=>x)
theorem zm2 {prog:Program} {w:World} {A:Around} {E:Value->Shared->Prop} {s:Shared} {h₀:Heap} {C N:Addr} {mN:Str->Option Value} {pos:Pos} {first:List Value} {args:List (Bool × Sem Value)} {Q:Value->Shared->Prop} (K:PyProof.Rows.ClsAt h₀ C N mN) (hplain:args.any (·.1)=false)
  (h:wpAny (model prog w) A (evalArgs (.ref C) true args []) (fun a s₁=>(∀ b o,h₀.get? b=some o->s₁.heap.get? b=some o)/\wpAny (model prog w) A (call (.ref C) (first++a.pos) a.kw) Q E s₁) E s) :
  wpAny (model prog w) A (callWith pos (.ref C) first args []) Q E s:=by
 unfold callWith
 refine wpAny_bind (wpAny_holding (wpAny_mono h (fun a s₁ h₁=>wpAny_bind (wpAny_standAt ?_)) fun z1 z2 x=>x))
 obtain ⟨hk,hc⟩:=h₁
 obtain ⟨hh,g,d,t,os⟩:=s₁
 obtain ⟨nm,q,bs,sn,sub,col,dd,k0,k1,k2,k3,k5,hC⟩:=ClsQ.of (K.keeps hk)
 have f1:=tc_lookup
 have hT:(⟨hh,g,d,t,os⟩:Shared).TypeIs (.ref C) "type":=⟨_,hC,rfl⟩
 have hst:(args.any (fun x=>x.fst) || ([]:List (Option Str × Sem Value)).any fun x=>x.fst.isNone)=false:=by rw [hplain];rfl
 show wpAny _ _ (keeperOf (.ref C) >>= _) _ _ _
 unfold keeperOf specialOf
 repeat (any_goals (first | assumption | with_reducible refine wpAny_loadPart_at hC ?_ | with_reducible refine wpAny_load' hC ?_ | wp_step))
 rw [if_pos (by rfl),hst]
 show wpAny _ _ (call (.ref C) (first++a.pos) a.kw >>= fun r=>do holding [r] point;pure r) _ _ _
 exact wpAny_bind (wpAny_mono hc (fun r s' hr=>wpAny_bind (wpAny_holding (wpAny_point (wpAny_pure hr)))) fun z1 z2 x=>x)
theorem zdk {A:Around} {E:Value->Shared->Prop} {s:Shared} {pos:Pos} {f:Value} {first:List Value} {args:List (Bool × Sem Value)} {Q:Value->Shared->Prop} (hplain:args.any (·.1)=false) (hf:Callee c f)
  (h:wpAny c.M A (spliced args) (fun vs s₁=>(∀ b o,c.k.h0.get? b=some o->s₁.heap.get? b=some o)/\wpAny c.M A (call f (first++vs)) Q E s₁) E s) :
  wpAny c.M A (callWith pos f first args []) Q E s:=by
 rcases hf with ⟨id,rfl⟩ | ⟨T,rfl⟩ | ⟨a,o,fd,rfl,ho,hd⟩ | ⟨C,N,mN,rfl,K⟩
 ·exact Calls.callWith_builtin hplain (zbz hplain (wpAny_mono h (fun z1 z2 x=>x.2) fun z1 z2 x=>x))
 ·exact zlf hplain (zbz hplain (wpAny_mono h (fun z1 z2 x=>x.2) fun z1 z2 x=>x))
 ·exact Calls.callWith_function (o:=o) (fd:=fd) (zbz hplain (wpAny_mono h (fun z1 z2 x=>⟨⟨x.1 _ _ ho,hd⟩,x.2⟩) fun z1 z2 x=>x))
 ·exact zm2 K hplain (zbz hplain h)
theorem zbs {pos:Pos} {l:List (Bool × Sem Value)} (h:l.any (·.1)=false):(backTo pos l).any (·.1)=false:=by
 unfold backTo
 rw [List.any_map]
 exact (congrArg (fun f=>l.any f) (funext fun z1=>rfl)).trans h
theorem zv4 {f:Str} {p pos:Pos} {args:List Expr} (h:WE c d sc (.Name f p) m σ (fun fv σ₁=>∃ cv,fv=.raw cv/\Callee c cv/\WEs c d sc args m σ₁ (fun vs σ₂=>CallS c d cv vs σ₂ P X) X) X) :
  WE c d sc (.Call (.Name f p) args [] pos) m σ P X:=by
 intro env A s E r
 rw [arm_eval_Call_Name']
 refine wpAny_bind (wpAny_mono (h env A s E r) ?_ fun z1 z2 x=>x)
 rintro cf s₁ ⟨fv,σ₁,⟨cv,rfl,hcal,h₁⟩,t₁,hs₁,rf⟩
 simp only [VRel] at rf;subst rf
 obtain ⟨hp,hw⟩:=h₁ env A s₁ E pos (r.step t₁ hs₁)
 refine zdk (zbs hp) hcal (wpAny_mono hw ?_ fun z1 z2 x=>x)
 rintro cvs s₂ ⟨vs,σ₂,⟨_,h₂⟩,t₂,hs₂,rvs⟩
 refine ⟨hs₂.keep,?_⟩
 exact wpAny_mono (h₂ A s₂ E cvs r.a hs₂ rvs ((r.e.step t₁).step t₂)) (fun z1 z2 q=>(q.step t₂).step t₁) fun z1 z2 x=>x
theorem zo4 (hc:c.k.OK) {f:Str} {p pos:Pos} {args:List Expr} {cv:Value} (hk:sc.names.lookup f=some .globalImplicit) (hg:c.k.mg f=some cv) (hcal:Callee c cv)
  (h:WEs c d sc args m σ (fun vs σ₂=>CallS c d cv vs σ₂ P X) X):WE c d sc (.Call (.Name f p) args [] pos) m σ P X:=
 zv4 (zif hc hk hg (v:=.raw cv) (fun z1 z2=>by simp only [VRel]) ⟨cv,rfl,hcal,h⟩)
theorem zig (hc:c.k.OK) {f:Str} {p pos:Pos} {args:List Expr} {cv:Value} (hk:sc.names.lookup f=some .globalImplicit) (hg:c.k.mg f=none) (hb:c.k.mb f=some cv) (hcal:Callee c cv)
  (h:WEs c d sc args m σ (fun vs σ₂=>CallS c d cv vs σ₂ P X) X):WE c d sc (.Call (.Name f p) args [] pos) m σ P X:=
 zv4 (zj8 hc hk hg hb ⟨cv,rfl,hcal,h⟩)
def zzp (c:Cx) (σ:Led) (ov:V) (name:Str) (T id:String):Prop:=PlainAttrs T/\Slot T name id/\typeOf (.builtin id)=pure (.type "method_descriptor")/\
 ∀ (A:Around) (s:Shared) (cv:Value),St c A σ s.heap->VRel s.heap (zah c σ) ov cv->s.TypeIs cv T/\∀ a,cv=.ref a->∃ ob,s.heap.get? a=some ob/\ob.dict=none
noncomputable def za7 (e:Expr):Bool:=e.ctorIdx != 16
theorem zbi {o:Expr} {name:Str} {env:Env} {x:Sem Value} (h:za7 o=true):attributeBase o name env x=x:=by
 cases o with
 | Call _ _ _ _=>exact Bool.noConfusion (show false=true from h)
 | _=>rfl
theorem zv3 {o:Expr} {name:Str} {apos pos:Pos} {args:List Expr} (hb:za7 o=true) (hline:(apos.endLine == pos.line)=true)
  (h:WE c d sc o m σ (fun ov σ₁=>∃ T id,zzp c σ₁ ov name T id/\WEs c d sc args m σ₁ (fun vs σ₂=>CallS c d (.builtin id) (ov::vs) σ₂ P X) X) X)
  (hs:∀ env,(starEach args env).any (·.1)=false) (hn:args.length<30) :
  WE c d sc (.Call (.Attribute o name apos) args [] pos) m σ P X:=by
 intro env A s E r
 refine wpAny_Call_method_lateS (zbi hb) ?_ hline (wpAny_mono (h env A s E r) ?_ fun z1 z2 x=>x)
 ·have h1:(backTo pos (starEach args env)).all (fun x=>!x.1)=true:=by
   have:=zbs (pos:=pos) (hs env)
   rw [List.any_eq_false] at this
   rw [List.all_eq_true]
   intro x hx
   simpa using this x hx
  rw [h1]
  simp only [Bool.true_and,Bool.and_eq_true,decide_eq_true_eq]
  exact ⟨rfl,by simpa using hn⟩
 ·rintro co s₁ ⟨ov,σ₁,⟨T,id,⟨pa,slot,hty,hm⟩,h₁⟩,t₁,hs₁,ro⟩
  obtain ⟨hT,hd⟩:=hm A s₁ co hs₁ ro
  refine ⟨T,id,pa,slot,hty,hT,hd,?_⟩
  obtain ⟨hp,hw⟩:=h₁ env A s₁ E pos (r.step t₁ hs₁)
  refine zdk (c:=c) (zbs hp) .b (wpAny_mono hw ?_ fun z1 z2 x=>x)
  rintro cvs s₂ ⟨vs,σ₂,⟨_,h₂⟩,t₂,hs₂,rvs⟩
  refine ⟨hs₂.keep,?_⟩
  refine wpAny_mono (h₂ A s₂ E (co::cvs) r.a hs₂ (by simp only [VRels];exact ⟨co,cvs,rfl,t₂.v ro,rvs⟩) ((r.e.step t₁).step t₂)) (fun z1 z2 q=>(q.step t₂).step t₁) fun z1 z2 x=>x
end Mine
end
section
namespace Mine
open PySem
variable {c:Cx} {d:Nat} {sc:Scope} {m:zaf} {σ:Led} {P:V->Led->Prop} {X:XP}
theorem VRels.un1 {h:Heap} {own:List Addr} {v:V} {cs:List Value} (r:VRels h own [v] cs):∃ x,cs=[x]/\VRel h own v x:=by
 simp only [VRels] at r
 obtain ⟨x,_,rfl,r1,rfl⟩:=r
 exact ⟨x,rfl,r1⟩
theorem VRels.un2 {h:Heap} {own:List Addr} {v w:V} {cs:List Value} (r:VRels h own [v,w] cs):∃ x y,cs=[x,y]/\VRel h own v x/\VRel h own w y:=by
 simp only [VRels] at r
 obtain ⟨x,_,rfl,r1,y,_,rfl,r2,rfl⟩:=r
 exact ⟨x,y,rfl,r1,r2⟩
theorem zal {lv:V} {vs:List V} (hl:IsLst σ lv vs) (h:P (.int vs.length) σ):CallS c d (.builtin "len") [lv] σ P X:=by
 intro A s E cs _ st rs _
 obtain ⟨x,rfl,r⟩:=rs.un1
 have hq:=hl.plain st r
 (try clear rs)
 obtain ⟨a,cs,rfl,p,hsz,rs⟩:=hq
 have hsz':sizeLine=16777216:=by rw [sizeLine_eq]
 refine Calls.call_len_list p.isList (by simp only [List.size_toArray];lia) ?_
 rw [List.size_toArray,rs.length]
 exact Post.same st h (by simp only [VRel];exact ⟨_,rfl⟩)
theorem zns {vs:List V} (h:P (.int vs.length) σ):CallS c d (.builtin "len") [.tup vs] σ P X:=by
 intro A s E cs _ st rs _
 obtain ⟨x,rfl,r⟩:=rs.un1
 simp only [VRel] at r
 obtain ⟨a,cs,rfl,hno,⟨n,e⟩,hsz,rs⟩:=r
 have hsz':sizeLine=16777216:=by rw [sizeLine_eq]
 refine PySem.P.len_tuple e (by simp only [List.size_toArray];lia) ?_
 rw [List.size_toArray,rs.length]
 exact Post.same st h (by simp only [VRel];exact ⟨_,rfl⟩)
theorem znt {x:Str} (hx:x.length<=1000000) (h:P (.int x.length) σ):CallS c d (.builtin "len") [.str x] σ P X:=by
 intro A s E cs _ st rs _
 obtain ⟨x,rfl,r⟩:=rs.un1
 simp only [VRel] at r
 obtain ⟨t,rfl⟩:=r
 exact PySem.P.len_str (by lia) (Post.same st h (by simp only [VRel];exact ⟨_,rfl⟩))
theorem VRels.raw2 {h:Heap} {own:List Addr} {v:V} {w:Value} {cs:List Value} (r:VRels h own [v,.raw w] cs):∃ x,cs=[x,w]/\VRel h own v x:=by
 obtain ⟨x,y,rfl,r1,r2⟩:=r.un2
 simp only [VRel] at r2;subst r2
 exact ⟨x,rfl,r1⟩
section isi
variable {i:Int} {b:Bool} {x:Str} {vs:List V}
theorem zhy {T:String} {r:Bool} (hz:∀ {A:Around} {E:Value->Shared->Prop} {s:Shared} {t:Tok} {Q:Value->Shared->Prop},(∀ k,Q (.bool r) { s with toks:=k })->wpAny c.M A (call (.builtin "isinstance") [.int i t,.type T]) Q E s)
  (h:P (.bool r) σ):CallS c d (.builtin "isinstance") [.int i,.raw (.type T)] σ P X:=by
 intro A s E cs _ st rs _
 obtain ⟨y,rfl,ry⟩:=rs.raw2
 simp only [VRel] at ry;obtain ⟨t,rfl⟩:=ry
 exact hz fun k=>Post.same st h (by simp only [VRel])
theorem zpm (h:P (.bool true) σ):CallS c d (.builtin "isinstance") [.int i,.raw (.type "int")] σ P X:=zhy (fun q=>IsiPair.int_int (q _)) h
theorem znl (h:P (.bool false) σ):CallS c d (.builtin "isinstance") [.int i,.raw (.type "bool")] σ P X:=zhy (fun q=>IsiPair.int_bool (q _)) h
theorem zpl (h:P (.bool false) σ):CallS c d (.builtin "isinstance") [.int i,.raw (.type "str")] σ P X:=zhy (fun q=>IsiPair.int_str (q _)) h
theorem zlr (h:P (.bool false) σ):CallS c d (.builtin "isinstance") [.int i,.raw (.type "tuple")] σ P X:=zhy (fun q=>IsiPair.int_tuple (q _)) h
theorem znk (h:P (.bool false) σ):CallS c d (.builtin "isinstance") [.int i,.raw (.type "list")] σ P X:=zhy (fun q=>IsiPair.int_list (q _)) h
theorem zez {T:String} {r:Bool} (hz:∀ {A:Around} {E:Value->Shared->Prop} {s:Shared} {Q:Value->Shared->Prop},(∀ k,Q (.bool r) { s with toks:=k })->wpAny c.M A (call (.builtin "isinstance") [.bool b,.type T]) Q E s)
  (h:P (.bool r) σ):CallS c d (.builtin "isinstance") [.bool b,.raw (.type T)] σ P X:=by
 intro A s E cs _ st rs _
 obtain ⟨y,rfl,ry⟩:=rs.raw2
 simp only [VRel] at ry;subst ry
 exact hz fun k=>Post.same st h (by simp only [VRel])
theorem zno (h:P (.bool true) σ):CallS c d (.builtin "isinstance") [.bool b,.raw (.type "int")] σ P X:=zez (fun q=>IsiPair.bool_int (q _)) h
theorem zlt (h:P (.bool true) σ):CallS c d (.builtin "isinstance") [.bool b,.raw (.type "bool")] σ P X:=zez (fun q=>IsiPair.bool_bool (q _)) h
theorem znn (h:P (.bool false) σ):CallS c d (.builtin "isinstance") [.bool b,.raw (.type "str")] σ P X:=zez (fun q=>IsiPair.bool_str (q _)) h
theorem zjd (h:P (.bool false) σ):CallS c d (.builtin "isinstance") [.bool b,.raw (.type "tuple")] σ P X:=zez (fun q=>IsiPair.bool_tuple (q _)) h
theorem zls (h:P (.bool false) σ):CallS c d (.builtin "isinstance") [.bool b,.raw (.type "list")] σ P X:=zez (fun q=>IsiPair.bool_list (q _)) h
theorem zhx {T:String} {r:Bool} (hz:∀ {A:Around} {E:Value->Shared->Prop} {s:Shared} {t:Tok} {Q:Value->Shared->Prop},(∀ k,Q (.bool r) { s with toks:=k })->wpAny c.M A (call (.builtin "isinstance") [.str x t,.type T]) Q E s)
  (h:P (.bool r) σ):CallS c d (.builtin "isinstance") [.str x,.raw (.type T)] σ P X:=by
 intro A s E cs _ st rs _
 obtain ⟨y,rfl,ry⟩:=rs.raw2
 simp only [VRel] at ry;obtain ⟨t,rfl⟩:=ry
 exact hz fun k=>Post.same st h (by simp only [VRel])
theorem zpi (h:P (.bool false) σ):CallS c d (.builtin "isinstance") [.str x,.raw (.type "int")] σ P X:=zhx (fun q=>IsiPair.str_int (q _)) h
theorem znh (h:P (.bool false) σ):CallS c d (.builtin "isinstance") [.str x,.raw (.type "bool")] σ P X:=zhx (fun q=>IsiPair.str_bool (q _)) h
theorem zph (h:P (.bool true) σ):CallS c d (.builtin "isinstance") [.str x,.raw (.type "str")] σ P X:=zhx (fun q=>IsiPair.str_str (q _)) h
theorem zlp (h:P (.bool false) σ):CallS c d (.builtin "isinstance") [.str x,.raw (.type "tuple")] σ P X:=zhx (fun q=>IsiPair.str_tuple (q _)) h
theorem zng (h:P (.bool false) σ):CallS c d (.builtin "isinstance") [.str x,.raw (.type "list")] σ P X:=zhx (fun q=>IsiPair.str_list (q _)) h
theorem zqp {T:String} {r:Bool} (hz:∀ {A:Around} {E:Value->Shared->Prop} {s:Shared} {Q:Value->Shared->Prop},(∀ k,Q (.bool r) { s with toks:=k })->wpAny c.M A (call (.builtin "isinstance") [.none,.type T]) Q E s)
  (h:P (.bool r) σ):CallS c d (.builtin "isinstance") [.none,.raw (.type T)] σ P X:=by
 intro A s E cs _ st rs _
 obtain ⟨y,rfl,ry⟩:=rs.raw2
 simp only [VRel] at ry;subst ry
 exact hz fun k=>Post.same st h (by simp only [VRel])
theorem zcb {T T':String} {r:Bool} {lv:V} (hz:∀ {A:Around} {E:Value->Shared->Prop} {s:Shared} {a:Addr} {o:Obj} {Q:Value->Shared->Prop},s.heap.get? a=some o->o.cls=.type T'->(∀ k,Q (.bool r) { s with toks:=k })->wpAny c.M A (call (.builtin "isinstance") [.ref a,.type T]) Q E s)
  (hv:∀ {A:Around} {h:Heap} {x:Value},St c A σ h->VRel h (zah c σ) lv x->∃ a o,x=.ref a/\h.get? a=some o/\o.cls=.type T')
  (h:P (.bool r) σ):CallS c d (.builtin "isinstance") [lv,.raw (.type T)] σ P X:=by
 intro A s E cs _ st rs _
 obtain ⟨y,rfl,ry⟩:=rs.raw2
 obtain ⟨a,o,rfl,e,hc⟩:=hv st ry
 exact hz e hc fun k=>Post.same st h (by simp only [VRel])
theorem zh9 {A:Around} {h:Heap} {x:Value} (_:St c A σ h) (r:VRel h (zah c σ) (.tup vs) x):∃ a o,x=.ref a/\h.get? a=some o/\o.cls=.type "tuple":=by
 simp only [VRel] at r
 obtain ⟨a,cs,rfl,_,⟨n,e⟩,_,_⟩:=r
 exact ⟨a,_,rfl,e,rfl⟩
theorem zia {A:Around} {h:Heap} {x:Value} {lv:V} (hl:IsLst σ lv vs) (st:St c A σ h) (r:VRel h (zah c σ) lv x):∃ a o,x=.ref a/\h.get? a=some o/\o.cls=.type "list":=by
 obtain ⟨a,cs,rfl,⟨n,e⟩,_,_⟩:=hl.plain st r
 exact ⟨a,_,rfl,e,rfl⟩
theorem zlo (h:P (.bool true) σ):CallS c d (.builtin "isinstance") [.tup vs,.raw (.type "tuple")] σ P X:=zcb (fun e hc q=>IsiPair.tuple_tuple e hc (q _)) zh9 h
theorem zne (h:P (.bool false) σ):CallS c d (.builtin "isinstance") [.tup vs,.raw (.type "list")] σ P X:=zcb (fun e hc q=>IsiPair.tuple_list e hc (q _)) zh9 h
theorem zpg (h:P (.bool false) σ):CallS c d (.builtin "isinstance") [.tup vs,.raw (.type "int")] σ P X:=zcb (fun e hc q=>IsiPair.tuple_int e hc (q _)) zh9 h
theorem znf (h:P (.bool false) σ):CallS c d (.builtin "isinstance") [.tup vs,.raw (.type "bool")] σ P X:=zcb (fun e hc q=>IsiPair.tuple_bool e hc (q _)) zh9 h
theorem zpf (h:P (.bool false) σ):CallS c d (.builtin "isinstance") [.tup vs,.raw (.type "str")] σ P X:=zcb (fun e hc q=>IsiPair.tuple_str e hc (q _)) zh9 h
theorem zlq {lv:V} (hl:IsLst σ lv vs) (h:P (.bool false) σ):CallS c d (.builtin "isinstance") [lv,.raw (.type "tuple")] σ P X:=zcb (fun e hc q=>IsiPair.list_tuple e hc (q _)) (zia hl) h
theorem zdn {lv:V} (hl:IsLst σ lv vs) (h:P (.bool true) σ):CallS c d (.builtin "isinstance") [lv,.raw (.type "list")] σ P X:=zcb (fun e hc q=>IsiPair.list_list e hc (q _)) (zia hl) h
theorem zpk {lv:V} (hl:IsLst σ lv vs) (h:P (.bool false) σ):CallS c d (.builtin "isinstance") [lv,.raw (.type "int")] σ P X:=zcb (fun e hc q=>IsiPair.list_int e hc (q _)) (zia hl) h
theorem znj {lv:V} (hl:IsLst σ lv vs) (h:P (.bool false) σ):CallS c d (.builtin "isinstance") [lv,.raw (.type "bool")] σ P X:=zcb (fun e hc q=>IsiPair.list_bool e hc (q _)) (zia hl) h
theorem zpj {lv:V} (hl:IsLst σ lv vs) (h:P (.bool false) σ):CallS c d (.builtin "isinstance") [lv,.raw (.type "str")] σ P X:=zcb (fun e hc q=>IsiPair.list_str e hc (q _)) (zia hl) h
end isi
theorem Post.push {A:Around} {s:Shared} {v:V} {cv:Value} {o:Obj} {t:Nat} (st:St c A σ s.heap) (h:P v σ) (r:VRel (s.heap.push o) (zah c σ) v cv) :
  Post c A σ s P cv { s with heap:=s.heap.push o,toks:=t }:=
 ⟨v,σ,h,⟨(Ext.push o).kept,fun b o' e=>⟨o',Ext.push o b o' e⟩,fun b z1 o' e=>Ext.push o b o' e,.refl,rfl,rfl⟩,st.ext (.push o),r⟩
theorem zps {n:Int} (h:P (.rng 0 n) σ):CallS c d (.type "range") [.int n] σ P X:=by
 intro A s E cs _ st rs _
 obtain ⟨x,rfl,r⟩:=rs.un1
 simp only [VRel] at r;obtain ⟨t,rfl⟩:=r
 refine call_range_1 (Post.push st h ?_)
 simp only [VRel]
 exact ⟨_,_,_,_,rfl,st.newS,Heap.get?_push_size _ rfl⟩
theorem zpr {lo hi:Int} (h:P (.rng lo hi) σ):CallS c d (.type "range") [.int lo,.int hi] σ P X:=by
 intro A s E cs _ st rs _
 obtain ⟨x,y,rfl,r,r'⟩:=rs.un2
 simp only [VRel] at r r';obtain ⟨t,rfl⟩:=r;obtain ⟨u,rfl⟩:=r'
 refine call_range_2 (Post.push st h ?_)
 simp only [VRel]
 exact ⟨_,_,_,_,rfl,st.newS,Heap.get?_push_size _ rfl⟩
theorem zz4 (hh:c.k.hd=true) {a b:Int} (h:P (.int (max a b)) σ):CallS c d (.builtin "max") [.int a,.int b] σ P X:=by
 intro A s E cs hA st rs _
 obtain ⟨x,y,rfl,r,r'⟩:=rs.un2
 simp only [VRel] at r r';obtain ⟨t,rfl⟩:=r;obtain ⟨u,rfl⟩:=r'
 refine max_two_ints (hA.handled hh) fun h' tk k=>⟨.int (max a b),σ,h,.ext k rfl rfl,st.ext k,?_⟩
 simp only [VRel]
 by_cases q:b > a
 ·rw [if_pos q,show max a b=b from Int.max_eq_right (Int.le_of_lt q)];exact ⟨_,rfl⟩
 ·rw [if_neg q,show max a b=a from Int.max_eq_left (Int.not_lt.mp q)];exact ⟨_,rfl⟩
theorem zz3 (hh:c.k.hd=true) {a b:Int} (h:P (.int (min a b)) σ):CallS c d (.builtin "min") [.int a,.int b] σ P X:=by
 intro A s E cs hA st rs _
 obtain ⟨x,y,rfl,r,r'⟩:=rs.un2
 simp only [VRel] at r r';obtain ⟨t,rfl⟩:=r;obtain ⟨u,rfl⟩:=r'
 refine min_two_ints (hA.handled hh) fun h' tk k=>⟨.int (min a b),σ,h,.ext k rfl rfl,st.ext k,?_⟩
 simp only [VRel]
 by_cases q:b<a
 ·rw [if_pos q,show min a b=b from Int.min_eq_right (Int.le_of_lt q)];exact ⟨_,rfl⟩
 ·rw [if_neg q,show min a b=a from Int.min_eq_left (Int.not_lt.mp q)];exact ⟨_,rfl⟩
theorem VRels.strs {h:Heap} {own:List Addr}:∀ {ys:List Str} {cs:List Value},VRels h own (ys.map .str) cs->PyProof.Rows.StrsAre cs ys
 | [],_,r=>by simp only [List.map_nil,VRels] at r;subst r;exact .nil
 | y::ys,_,r=>by
  simp only [List.map_cons,VRels,VRel] at r
  obtain ⟨_,_,rfl,⟨t,rfl⟩,rs⟩:=r
  exact .cons y t (VRels.strs rs)
theorem zwo {x:Str}:zzp c σ (.str x) "join" "str" "str.join":=by
 refine ⟨F.plainAttrs_str,F.slot_str_join,F.type_str_join,fun A s cv st r=>?_⟩
 simp only [VRel] at r;obtain ⟨t,rfl⟩:=r
 exact ⟨typeIs_str _ _ _,fun a e=>by cases e⟩
theorem zw0 {x:Str} {ys:List Str} {lv:V} (hl:IsLst σ lv (ys.map .str)) (hok:(ys.map (·.length)).sum+ys.length * x.length<=16777216) (h:P (.str (Txt.join x ys)) σ):CallS c d (.builtin "str.join") [.str x,lv] σ P X:=by
 intro A s E cs _ st rs _
 obtain ⟨v,y,rfl,r,r'⟩:=rs.un2
 simp only [VRel] at r;obtain ⟨t,rfl⟩:=r
 have hq:=hl.plain st r'
 (try clear rs)
 obtain ⟨a,cs,rfl,p,hsz,rs⟩:=hq
 exact PyProof.Rows.join_list p.isList (by simpa using rs.strs) hok fun t' k=>Post.same st h (by simp only [VRel];exact ⟨_,rfl⟩)
end Mine
end
section
namespace Mine
open PySem
variable {c:Cx} {d:Nat} {sc:Scope} {m:zaf} {σ:Led} {P P':V->Led->Prop} {X:XP}
noncomputable def zfo (p:Program) (i:Nat):Stmt:=p.main.body.getD i (.Pass ⟨0,0,0,0⟩)
noncomputable def zf0 (st:Stmt):List Stmt:=if h:st.ctorIdx=0 then Stmt.FunctionDef.elim (motive_2:=fun z1=>List Stmt) st h (fun z1 z2 b z3 z4 z5 z6 z7 z8 z9=>b) else []
noncomputable def scS (st:Stmt):Scope:=if h:st.ctorIdx=0 then Stmt.FunctionDef.elim (motive_2:=fun z1=>Scope) st h (fun z1 z2 z3 z4 z5 z6 sc z7 z8 z9=>sc) else { kind:=.function,names:=[],isGenerator:=false,isCoroutine:=false }
noncomputable def zbo (st:Stmt):List Str:=if h:st.ctorIdx=0 then Stmt.FunctionDef.elim (motive_2:=fun z1=>List Str) st h (fun z1 a z2 z3 z4 z5 z6 z7 z8 z9=>a.args.map (·.arg)) else []
theorem zkc:∀ {names:List Str} {cs:List Value},names.Nodup->cs.length=names.length->names.filterMap (fun n=>((names.zip cs).lookup n).map (n,·))=names.zip cs:=by
 have gen:∀ (names:List Str) (cs:List Value) (pre:List (Str × Value)),names.Nodup->cs.length=names.length->(∀ n∈names,pre.lookup n=none)->names.filterMap (fun n=>((pre++names.zip cs).lookup n).map (n,·))=names.zip cs:=by
  intro names
  induction names with
  | nil=>intro cs pre _ _ _;simp
  | cons n r ih=>
   intro cs pre hn hl hp
   cases cs with
   | nil=>simp at hl
   | cons v vs=>
    simp only [List.nodup_cons] at hn
    have h1:(pre++(n::r).zip (v::vs)).lookup n=some v:=by
     rw [List.lookup_append,hp n (List.mem_cons_self ..)];simp
    rw [List.filterMap_cons,h1]
    simp only [Option.map_some,List.zip_cons_cons,List.cons.injEq,true_and]
    have:=ih vs (pre++[(n,v)]) hn.2 (by simpa using hl) (fun x hx=>by
     rw [List.lookup_append,hp x (List.mem_cons_of_mem _ hx)]
     have:x≠n:=fun e=>hn.1 (e ▸ hx)
     simp [List.lookup_cons,beq_eq_false_iff_ne.mpr this])
    simpa using this
 intro names cs hn hl
 simpa using gen names cs [] hn hl (by simp)
theorem zg4 {names:List Str}:∀ {cs:List Value},cs.length=names.length->∀ n∈names,((names.zip cs).lookup n).isNone=false:=by
 induction names with
 | nil=>intro cs _ n hn;cases hn
 | cons a r ih=>
  intro cs hl n hn
  cases cs with
  | nil=>simp at hl
  | cons v vs=>
   simp only [List.zip_cons_cons,List.lookup_cons]
   cases hb:n == a with
   | true=>rfl
   | false=>
    have:n∈r:=by
     rcases List.mem_cons.mp hn with q | q
     ·subst q;simp at hb
     ·exact q
    exact ih (by simpa using hl) n this
theorem zd4 {fd:FuncData} {names:List Str} (h1:fd.params.posonlyargs=[]) (h2:fd.params.args.map (·.arg)=names) (h3:fd.params.vararg=none) (h4:fd.params.kwonlyargs=[]) (h5:fd.params.kwarg=none) (h6:fd.defaults=.none)
  (hn:names.Nodup) {cs:List Value} (hl:cs.length=names.length):bindArgs fd ⟨cs,[]⟩=pure (names.zip cs):=by
 have hmiss:(names.filter fun n=>((names.zip cs).lookup n).isNone)=[]:=by
  rw [List.filter_eq_nil_iff]
  intro n hn'
  rw [zg4 hl n hn'];simp
 obtain ⟨name,qualname,⟨po,ar,va,ko,kd,ka,de⟩,body,scope,globals,closure,defaults,kwdefaults,doc,pm,ann,code,ct,bl⟩:=fd
 dsimp only at h1 h2 h3 h4 h5 h6
 subst h1 h2 h3 h4 h5 h6
 refine (if_neg ?_).trans ((if_neg ?_).trans ?_)
 ·show ¬ (decide (cs.length > (ar.map (·.arg)).length) && true)=true
  rw [hl,decide_eq_false (Nat.lt_irrefl _)];decide
 ·show ¬ (!(((ar.map (·.arg)).take ((ar.map (·.arg)).length - (List.drop (0 - (ar.map (·.arg)).length) ([]:List Value)).length)).filter fun n=>(((ar.map (·.arg)).zip cs).lookup n).isNone).isEmpty)=true
  rw [List.drop_nil,List.length_nil,Nat.sub_zero,List.take_length,hmiss];decide
 ·dsimp only
  rw [show ((none:Option (Array Value)).getD #[]).toList=[] from rfl,List.drop_nil,List.zip_nil_right,List.forIn_nil]
  show pure (f:=Sem) (((ar.map fun y:Arg=>y.arg)++[]).filterMap fun n=>(((ar.map fun y:Arg=>y.arg).zip cs).lookup n).map (n,·))=_
  rw [List.append_nil,zkc hn hl]
structure Fn (k:Base) (x:Str) (st:Stmt):Prop where
 ex:∃ f,k.mg x=some f/\(∀ c:Cx,c.k=k->FnAt c f (zbo st) (zf0 st) (scS st))
def Def (k:Base) (x:Str):Prop:=∃ f,k.mg x=some f/\Callee ⟨k,[],[]⟩ f
theorem Fn.def {k:Base} {x:Str} {st:Stmt} (h:Fn k x st):Def k x:=by
 obtain ⟨f,hg,hf⟩:=h.ex
 exact ⟨f,hg,(hf ⟨k,[],[]⟩ rfl).callee⟩
open PyProof.Rows PySem.Calls in
structure TopAt (k:Base) (q:Program) (loose:List Str):Prop where
 ok:k.OK
 fn:∀ d∈recsOf q,∃ a o pm code doc,k.mg d.name=some (.ref a)/\k.h0.get? a=some o/\o.data=.func (docDef d.name d.params d.body d.scope pm code doc)/\k.h0.CodeRec code d.name
 const:∀ x d,valOf q x=some d->∃ v,k.mg x=some v/\∀ h':Heap,Reads h' v d []
 free:∀ x,x∉startupNames->x∉loose->x∉(recsOf q).map (·.name)->x∉(litsOf q).map (·.1)->x∉(clssOf q loose).map (·.name)->k.mg x=none
 mbs:∀ x:Str,x≠"__name__"->k.mb x=bootBuiltins x
open PyProof.Rows PySem.Calls in
theorem TopAt.def_ {k:Base} {q:Program} {loose:List Str} (hp:TopAt k q loose) {x:Str} {i:Nat} {st:Stmt} {a:Arguments} {b:List Stmt} {r1 r2 r3 sc t1 t2 pos} (hi:q.main.body[i]?=some st) (hst:st=.FunctionDef x a b r1 r2 r3 sc t1 t2 pos) (hd:q.theDef x=some (a,b,sc))
  (h1:a.posonlyargs=[]) (h2:a.vararg=none) (h3:a.kwonlyargs=[]) (h4:a.kw_defaults=[]) (h5:a.kwarg=none) (h6:a.defaults=[]) (hn:zcs (zbo st)=true):Fn k x st:=by
 subst hst
 have hm:(⟨x,a,b,sc,pos⟩:DefRec)∈recsOf q:=by
  refine List.mem_filterMap.mpr ⟨_,List.mem_of_getElem? hi,?_⟩
  dsimp only
  rw [hd]
  dsimp only
  rw [h6,h3,h4]
  rfl
 obtain ⟨f,o,pm,code,doc,q1,q2,q3,q4⟩:=hp.fn _ hm
 have hn':zcs (a.args.map fun y:Arg=>y.arg)=true:=hn
 exact ⟨.ref f,q1,fun c hck=>⟨f,o,_,rfl,by rw [hck];exact q2,q3,by rw [hck];exact q4,rfl,rfl,rfl,rfl,rfl,fun cs hl=>zd4 h1 rfl h2 h3 h5 rfl (zci hn') hl⟩⟩
def CallN (c:Cx) (d:Nat) (x:Str) (vs:List V) (σ:Led) (P:V->Led->Prop) (X:XP):Prop:=∃ f,c.k.mg x=some f/\CallS c d f vs σ P X
theorem zza (hc:c.k.OK) {f:Str} {p pos:Pos} {args:List Expr} (hdef:Def c.k f) (h:WEs c d sc args m σ (fun vs σ₂=>CallN c d f vs σ₂ P X) X) (hk:sc.names.lookup f=some .globalImplicit) :
  WE c d sc (.Call (.Name f p) args [] pos) m σ P X:=by
 obtain ⟨cv,hg,hcal⟩:=hdef
 refine zo4 hc hk hg hcal ?_
 intro env A s E pos r
 obtain ⟨h1,h2⟩:=h env A s E pos r
 refine ⟨h1,wpAny_mono h2 ?_ fun z1 z2 x=>x⟩
 rintro cvs s₁ ⟨vs,σ₁,⟨hl,f',hf',hcall⟩,r,r2,r3⟩
 rw [hg] at hf';cases hf'
 exact ⟨vs,σ₁,⟨hl,hcall⟩,r,r2,r3⟩
theorem zw1 {x:Str} {st:Stmt} {vs:List V} (hc:c.k.OK) (hf:Fn c.k x st) {m₀:zaf} (h:WSs c d (scS st) (zf0 st) m₀ σ (Ret P) X) (hsc:z3y (scS st) (zbo st)=true) (hl:vs.length=(zbo st).length) (hm:(zbo st).zip vs=m₀) :
  CallN c (d+1) x vs σ P X:=by
 obtain ⟨f,hg,hf⟩:=hf.ex
 subst hm
 exact ⟨f,hg,znv hc (hf c rfl) hsc hl h⟩
def Blt (k:Base) (x:Str) (v:Value):Prop:=k.mg x=none/\k.mb x=some v
theorem zli (hc:c.k.OK) {f:Str} {p pos:Pos} {args:List Expr} {cv:Value} (hb:Blt c.k f cv) (h:WEs c d sc args m σ (fun vs σ₂=>CallS c d cv vs σ₂ P X) X) (hcal:Callee c cv) (hk:sc.names.lookup f=some .globalImplicit) :
  WE c d sc (.Call (.Name f p) args [] pos) m σ P X:=zig hc hk hb.1 hb.2 hcal h
theorem z0k (hc:c.k.OK) {x:Str} {pos:Pos} {cv:Value} (hb:Blt c.k x cv) (h:P (.raw cv) σ) (hk:sc.names.lookup x=some .globalImplicit):WE c d sc (.Name x pos) m σ P X:=zj8 hc hk hb.1 hb.2 h
open PyProof.Rows PySem.Calls in
noncomputable def zta (q:Program) (loose:List Str) (x:Str):Bool:=!(startupNames.contains x) && !(loose.contains x) && !(((recsOf q).map (·.name)).contains x) && !(((litsOf q).map (·.1)).contains x) && !(((clssOf q loose).map (·.name)).contains x)
theorem TopAt.blt {k:Base} {q:Program} {loose:List Str} (hp:TopAt k q loose) {x:Str} {v:Value} (hu:zta q loose x=true) (hn:x≠"__name__") (hb:bootBuiltins x=some v):Blt k x v:=by
 unfold zta at hu
 simp only [Bool.and_eq_true,Bool.not_eq_true',List.contains_eq_mem,decide_eq_false_iff_not] at hu
 exact ⟨hp.free x hu.1.1.1.1 hu.1.1.1.2 hu.1.1.2 hu.1.2 hu.2,by rw [hp.mbs x hn,hb]⟩
theorem WE.mono {e:Expr} (h:WE c d sc e m σ P X) (k:∀ v σ',P v σ'->P' v σ'):WE c d sc e m σ P' X:=fun env A s E r=>
 wpAny_mono (h env A s E r) (fun z1 z2=>.imp k) fun z1 z2 x=>x
theorem WT.mono {e:Expr} {P P':Bool->Led->Prop} (h:WT c d sc e m σ P X) (k:∀ v σ',P v σ'->P' v σ'):WT c d sc e m σ P' X:=fun env A s E r=>
 wpAny_mono (h env A s E r) (fun z1 z2=>.imp (k _)) fun z1 z2 x=>x
theorem CallS.mono {f:Value} {vs:List V} (h:CallS c d f vs σ P X) (k:∀ v σ',P v σ'->P' v σ'):CallS c d f vs σ P' X:=fun A s E cs a st r e=>
 wpAny_mono (h A s E cs a st r e) (fun z1 z2=>.imp k) fun z1 z2 x=>x
theorem CallN.mono {f:Str} {vs:List V} (h:CallN c d f vs σ P X) (k:∀ v σ',P v σ'->P' v σ'):CallN c d f vs σ P' X:=let ⟨v,hg,h⟩:=h;⟨v,hg,h.mono k⟩
theorem WSs.mono {sts:List Stmt} {K K':Fl->zaf->Led->Prop} (h:WSs c d sc sts m σ K X) (k:∀ f m' σ',K f m' σ'->K' f m' σ'):WSs c d sc sts m σ K' X:=fun env A s E r=>
 wpAny_mono (h env A s E r) (fun z1 z2=>.imp k) fun z1 z2 x=>x
theorem zx5 {prog:Program} {w:World} {s₁:Shared} {mg mb:Str->Option Value} (hk:(Base.mk prog w s₁.heap mg mb true).OK) {fa a:Addr} {items:List Value} {xs:List Int} {E:Value->Shared->Prop}
  (hl:s₁.heap.get? a=some { cls:=.type "list",data:=.seq items.toArray }) (hi:PyProof.Rows.IntsAre items xs) (hlen:xs.length<=63)
  (h:CallS ⟨⟨prog,w,s₁.heap,mg,mb,true⟩,[],[]⟩ 90 (.ref fa) [.lst (xs.map .int)] [] (fun v z1=>v=.bool true) NoX) :
  wpAny (model prog w) callerA (call (.ref fa) [.ref a]) (fun v s'=>v=.bool true/\(∀ b o,s₁.heap.get? b=some o->s'.heap.get? b=some o)/\s'.os=s₁.os/\s'.gens=s₁.gens) E s₁:=by
 have hints:∀ {items:List Value} {xs:List Int},PyProof.Rows.IntsAre items xs->VRels s₁.heap [] (xs.map V.int) items:=by
  intro items xs hi
  induction hi with
  | nil=>simp only [List.map_nil,VRels]
  | cons n t _ ih=>simp only [List.map_cons,VRels,VRel];exact ⟨_,_,rfl,⟨t,rfl⟩,ih⟩
 have hst:St ⟨⟨prog,w,s₁.heap,mg,mb,true⟩,[],[]⟩ callerA [] s₁.heap:=by
  refine ⟨fun z1 z2 e=>e,List.nodup_nil,fun z1 h=>(by cases h),fun z1 z2 h=>(by cases h),⟨[],rfl,?_,fun L h=>(by cases h)⟩,fun z1 h=>(by cases h),fun z1 h=>(by cases h)⟩
  exact trivial
 have hsz:items.length=xs.length:=by have:=(hints hi).length;simpa using this
 refine wpAny_mono (h callerA s₁ E [.ref a] ⟨fun z1=>rfl,by decide +kernel,by decide +kernel,by decide⟩ hst ?_ EOk.nox) ?_ fun z1 z2 x=>x
 ·simp only [VRels,VRel]
  exact ⟨_,_,rfl,⟨a,items,rfl,by simp [zah,zab],⟨_,hl⟩,by rw [hsz,sizeLine_eq];lia,hints hi⟩,rfl⟩
 ·rintro v s' ⟨v',σ',hv,t,st,r⟩
  rw [hv] at r
  simp only [VRel] at r
  exact ⟨r,fun b o e=>st.keep b o e,t.os,t.gens⟩
end Mine
end
section
namespace Mine
open PySem
variable {c:Cx} {d:Nat} {sc:Scope} {m:zaf} {σ:Led} {P P':V->Led->Prop} {X:XP} {K:Fl->zaf->Led->Prop} {N:zaf->Led->Prop}
theorem zpq {a b:Bool} (h:P (.bool (a == b)) σ):Op2 c d (compareOp .Eq) (.bool a) (.bool b) σ P:=by
 intro A s E ca cb _ st ra rb
 simp only [VRel] at ra rb;subst ra;subst rb
 exact PyProof.Rows.eq_bool (Post.same' st h (by simp only [VRel]))
theorem zpo {a b:Bool} (h:P (.bool (a != b)) σ):Op2 c d (compareOp .NotEq) (.bool a) (.bool b) σ P:=by
 intro A s E ca cb _ st ra rb
 simp only [VRel] at ra rb;subst ra;subst rb
 exact PyProof.Rows.ne_bool (Post.same' st h (by simp only [VRel]))
theorem zzn (h:P (.int 1000000000000) σ):Op2 c d (binaryOp .Pow) (.int 10) (.int 12) σ P:=
 z0r (x:=10) (n:=12) (by decide) (by decide +kernel) h
theorem zcy {a:Int} (h1:-9223372036854775808<a) (h2:a<9223372036854775808):Builtin.Int.intBits a<=64:=by
 have hn:a.natAbs<2 ^ 63:=by lia
 unfold Builtin.Int.intBits
 by_cases hz:a.natAbs=0
 ·rw [hz];split <;> decide
 ·have:=(Nat.log2_lt hz).mpr hn
  split
  ·exact Nat.zero_le _
  ·(exact Ar.l01 (.le (.a (.v 0) (.k 1)) (.k 64)) [(.lt (.v 0) (.k 63))] (by kernel_rfl) this)
theorem zr9 {a b:Int} (h1:-9223372036854775808<a) (h2:a<9223372036854775808):IntMulOk a b:=IntMulOk.of_left (zcy h1 h2)
theorem zhs {a b:Int} (h1:-9223372036854775808<b) (h2:b<9223372036854775808):IntMulOk a b:=IntMulOk.of_right (zcy h1 h2)
theorem zo8 {x y:Int} (hy:0<y) (h:P (.int (x % y)) σ):Op2 c d (binaryOp .Mod) (.int x) (.int y) σ P:=
 z5y (by exact Ar.l10 (.no (.ieq (.v 0) (.k 0))) [(.ilt (.k 0) (.v 0))] (by kernel_rfl) hy) (by rw [Int.fmod_eq_emod_of_nonneg _ (by exact Ar.l10 (.ile (.k 0) (.v 0)) [(.ilt (.k 0) (.v 0))] (by kernel_rfl) hy)];exact h)
theorem zsc {y:Int} (hy:0<y) (h2:y<9223372036854775808):y.natAbs.log2<9000:=by
 have hn:y.natAbs<2 ^ 63:=by lia
 have:=(Nat.log2_lt (by lia)).mpr hn
 (exact Ar.l01 (.lt (.v 0) (.k 9000)) [(.lt (.v 0) (.k 63))] (by kernel_rfl) this)
theorem zo9 {x y:Int} (hy:0<y) (h2:y<9223372036854775808) (h:P (.int (x / y)) σ):Op2 c d (binaryOp .FloorDiv) (.int x) (.int y) σ P:=
 z5z (by exact Ar.l10 (.no (.ieq (.v 0) (.k 0))) [(.ilt (.k 0) (.v 0))] (by kernel_rfl) hy) (zsc hy h2) (by rw [Int.fdiv_eq_ediv_of_nonneg _ (by exact Ar.l10 (.ile (.k 0) (.v 0)) [(.ilt (.k 0) (.v 0))] (by kernel_rfl) hy)];exact h)
end Mine
namespace Mine
open PySem
theorem zsa {lo hi i:Int}:i∈zcf lo hi ↔ lo<=i/\i<hi:=by
 unfold zcf
 simp only [List.mem_map,List.mem_range]
 constructor
 ·rintro ⟨k,hk,rfl⟩
  exact ⟨Int.le_add_of_nonneg_right (Int.natCast_nonneg k),Int.add_lt_of_lt_sub_left (Int.lt_toNat.mp hk)⟩
 ·intro h
  refine ⟨(i - lo).toNat,?_,?_⟩
  ·exact (Int.toNat_lt_toNat (Int.sub_pos_of_lt (Int.lt_of_le_of_lt h.1 h.2))).mpr (Int.sub_lt_sub_right h.2 lo)
  ·rw [Int.toNat_of_nonneg (Int.sub_nonneg.mpr h.1)];rw [Int.add_comm,Int.sub_add_cancel]
theorem zaj (x y:Str):(x++y).cps.toList=x.cps.toList++y.cps.toList:=by
 show (x.cps++y.cps).toList=_
 simp
theorem z03 {x y:Str} (h:x.cps.toList=y.cps.toList):x=y:=by
 obtain ⟨⟨l⟩⟩:=x;obtain ⟨⟨l'⟩⟩:=y
 simp only at h;subst h;rfl
theorem zao (x:Str):x.length=x.cps.toList.length:=by simp [Str.length]
theorem zj0:∀ (l:List Nat),Str.join (Str.ofString "") (l.map fun k=>(⟨#[k]⟩:Str))=⟨l.toArray⟩
 | []=>rfl
 | [k]=>rfl
 | k::k'::r=>by
  have ih:=zj0 (k'::r)
  simp only [List.map_cons] at ih
  simp only [List.map_cons,Str.join]
  rw [ih]
  apply z03
  rw [zaj,zaj]
  have:(Str.ofString "").cps.toList=[]:=by decide +kernel
  rw [this];rfl
end Mine
end
section
namespace Mine
open PySem PySem.W PyProof.Rows
theorem law_head {l:OpenLaw} {w:World} {s₀ s₁:Shared} {mg mb:Str->Option Value} {fa a:Addr} {items:List Value} {xs:List Int} (hk:(Base.mk l.row.prog w s₁.heap mg mb true).OK)
  (hw:Well w.params s₁.heap (.ref a) (ofPy (.list (xs.map .int)))) (hL:s₁.heap.IsList a items.toArray) (hi:IntsAre items xs) (hlen:xs.length<=63) (hg:s₁.gens=#[])
  (h:CallS ⟨⟨l.row.prog,w,s₁.heap,mg,mb,true⟩,[],[]⟩ 90 (.ref fa) [.lst (xs.map .int)] [] (fun v z1=>v=.bool true) NoX) :
  wpAny (model l.row.prog w) callerA (call (.ref fa) [.ref a]) (fun v s'=>GoodWG l.row.claim (classAt s₀.heap) (ExcName.means s₀.heap) [ofPy (.list (xs.map .int))] s₁ (.ok (.ret v)) s')
   (fun e s'=>GoodWG l.row.claim (classAt s₀.heap) (ExcName.means s₀.heap) [ofPy (.list (xs.map .int))] s₁ (.error e) s') s₁:=by
 obtain ⟨o,ho,hc,n,hd⟩:=hL
 have hobj:s₁.heap.get? a=some { cls:=.type "list",data:=.seq items.toArray }:=by
  have key:∀ (v:Value) (dd:WData) (ys:List WData),Well w.params s₁.heap v dd->v=.ref a->dd=.list ys->∃ vs:List Value,s₁.heap.get? a=some { cls:=.type "list",data:=.seq vs.toArray }:=by
   intro v dd ys hW
   cases hW <;> intro e1 e2 <;> first
    | (cases e2;done)
    | (cases e1;cases e2;exact ⟨_,by assumption⟩)
  have e2:∃ ys,ofPy (.list (xs.map .int))=.list ys:=by
   first
    | exact ⟨_,rfl⟩
    | (simp only [ofPy];exact ⟨_,rfl⟩)
  obtain ⟨ys,e2⟩:=e2
  obtain ⟨vs,hv⟩:=key _ _ ys hw rfl e2
  rw [hv] at ho
  cases ho
  simp only at hd
  cases hd
  exact hv
 refine wpAny_mono (zx5 hk hobj hi hlen h) ?_ fun z1 z2 x=>x
 rintro v s' ⟨rfl,hkeep,hos,hgens⟩
 refine GoodW.toG ⟨.inl ⟨.bool true,.bool true,[],rfl,?_,?_,?_,?_⟩,hkeep,hos,hgens.trans hg⟩
 ·intro cls;rfl
 ·exact .bool _
 ·refine postW_of (X:=true) ?_ ?_ rfl
  ·have e:WShape.has [] (.bool true) .bool=true:=by decide +kernel
   exact e
  ·have e:same (WData.bool true) (WData.bool true)=true:=by decide +kernel
   show WTm.value [] (.eq .res (.lit (.bool true))) _=_
   simp [WTm.value,e]
 ·intro _;exact ⟨List.nodup_nil,fun a ha=>by cases ha⟩
end Mine
end
section
namespace Mine
open PySem PySem.SeqAt
variable {c:Cx} {d:Nat} {sc:Scope} {m:zaf} {σ:Led} {P P':V->Led->Prop} {X:XP} {K:Fl->zaf->Led->Prop} {N:zaf->Led->Prop}
def Const (k:Base) (x:Str) (v:V):Prop:=∃ cv,k.mg x=some cv/\∀ h own,VRel h own v cv
theorem zq7 (hc:c.k.OK) {x:Str} {pos:Pos} {v:V} (hv:Const c.k x v) (h:P v σ) (hk:sc.names.lookup x=some .globalImplicit):WE c d sc (.Name x pos) m σ P X:=by
 obtain ⟨cv,hg,hr⟩:=hv
 exact zif hc hk hg hr h
theorem TopAt.constI {k:Base} {q:Program} {loose:List Str} (hp:TopAt k q loose) {x:Str} {i:Int} (hv:PyProof.Rows.valOf q x=some (.int i)):Const k x (.int i):=by
 obtain ⟨v,h1,h2⟩:=hp.const x _ hv
 obtain ⟨t,rfl⟩:∃ t,v=.int i t:=by cases h2 default;exact ⟨_,rfl⟩
 exact ⟨_,h1,fun h own=>by simp only [VRel];exact ⟨t,rfl⟩⟩
theorem TopAt.constS {k:Base} {q:Program} {loose:List Str} (hp:TopAt k q loose) {x y:Str} (hv:PyProof.Rows.valOf q x=some (.str y)):Const k x (.str y):=by
 obtain ⟨v,h1,h2⟩:=hp.const x _ hv
 obtain ⟨t,rfl⟩:∃ t,v=.str y t:=by cases h2 default;exact ⟨_,rfl⟩
 exact ⟨_,h1,fun h own=>by simp only [VRel];exact ⟨t,rfl⟩⟩
theorem VRels.bools {h:Heap} {own:List Addr}:∀ {bs:List Bool} {cs:List Value},VRels h own (bs.map .bool) cs->cs=bs.map .bool
 | [],_,r=>by simp only [List.map_nil,VRels] at r;subst r;rfl
 | y::ys,_,r=>by
  simp only [List.map_cons,VRels,VRel] at r
  obtain ⟨_,_,rfl,rfl,rs⟩:=r
  rw [VRels.bools rs];rfl
theorem VRels.ints {h:Heap} {own:List Addr}:∀ {ys:List Int} {cs:List Value},VRels h own (ys.map .int) cs->∃ xs:Array (Int × Tok),cs.toArray=intItems xs/\xs.toList.map (·.1)=ys
 | [],_,r=>by simp only [List.map_nil,VRels] at r;subst r;exact ⟨#[],by simp [intItems],rfl⟩
 | y::ys,_,r=>by
  simp only [List.map_cons,VRels,VRel] at r
  obtain ⟨_,_,rfl,⟨t,rfl⟩,rs⟩:=r
  obtain ⟨xs,e1,e2⟩:=VRels.ints rs
  refine ⟨#[(y,t)]++xs,?_,by simp [e2]⟩
  have:∀ l:List (Int × Tok),intItems l.toArray=(l.map fun p=>Value.int p.1 p.2).toArray:=by intro l;simp [intItems]
  obtain ⟨l⟩:=xs
  rw [this] at e1
  have e3:(#[(y,t)]++(⟨l⟩:Array (Int × Tok)))=(((y,t)::l)).toArray:=by simp
  rw [e3,this]
  have e4:=congrArg Array.toList e1
  simp only at e4
  rw [List.map_cons,← e4]
theorem zvz {bs:List Bool} {tr:Nat->Bool} (h:∀ i b,bs[i]?=some b->tr i=b):(List.range bs.length).all tr=bs.all id:=by
 induction bs generalizing tr with
 | nil=>rfl
 | cons b r ih=>
  rw [List.length_cons,List.range_succ_eq_map,List.all_cons,List.all_map,List.all_cons,h 0 b rfl]
  rw [ih (tr:=tr∘Nat.succ) (fun i b hb=>h (i+1) b (by simpa using hb))];rfl
theorem zz5 (hh:c.k.hd=true) {bs:List Bool} {lv:V} (hl:IsLst σ lv (bs.map .bool)) (h:P (.bool (bs.all id)) σ):CallS c d (.builtin "all") [lv] σ P X:=by
 intro A s E cs hA st rs _
 obtain ⟨x,rfl,r⟩:=rs.un1
 have hq:=hl.plain st r
 (try clear rs)
 obtain ⟨a,cs,rfl,p,hsz,rs⟩:=hq
 have hcs:=rs.bools
 have hlt:a<s.heap.objs.size:=by obtain ⟨n,e⟩:=p;exact Heap.lt_size e
 refine call_all_walk (wpAny_pyIter_list p.isList ?_)
 refine ⟨_,_,_,_,_,_,fun i=>(bs[i]?).getD false,rfl,Walks.list (A:=A.in1) (hA.handled hh) _ a (Nat.ne_of_lt hlt) cs.toArray,⟨⟨_,Heap.get?_push_size _ rfl,rfl,rfl⟩,p.isList.push _⟩,?_,fun h' tk hk=>?_⟩
 ·intro i v s Q E hP hQ
  have hP:cs.toArray[i]?=some v:=hP
  rw [hcs,List.getElem?_toArray,List.getElem?_map] at hP
  cases e:bs[i]? with
  | none=>rw [e] at hP;cases hP
  | some b=>
   rw [e] at hP
   simp only [Option.map_some,Option.some.injEq] at hP
   subst hP
   have hQ:Q ((bs[i]?).getD false) s:=hQ
   rw [e] at hQ
   exact wpAny_truthy_bool hQ
 ·have hx:Ext s.heap h':=fun b o e=>hk b o (fun q=>by rw [List.mem_singleton.mp q] at e;exact absurd (Heap.lt_size e) (Nat.lt_irrefl _)) (Heap.get?_push_of_some _ e)
  have hlen:cs.toArray.size=bs.length:=by rw [List.size_toArray,hcs,List.length_map]
  rw [hlen,zvz (bs:=bs) (fun i b hb=>by rw [hb];rfl)]
  exact ⟨_,σ,h,.ext hx rfl rfl,st.ext hx,by simp only [VRel]⟩
theorem zz1 (hh:c.k.hd=true) {ys:List Int} {lv:V} (hl:IsLst σ lv (ys.map .int)) (h:P (.int ys.sum) σ):CallS c d (.builtin "sum") [lv] σ P X:=by
 intro A s E cs hA st rs _
 obtain ⟨x,rfl,r⟩:=rs.un1
 have hq:=hl.plain st r
 (try clear rs)
 obtain ⟨a,cs,rfl,p,hsz,rs⟩:=hq
 obtain ⟨xs,e1,e2⟩:=rs.ints
 have hl':=p.isList
 rw [e1] at hl'
 have hlt:a<s.heap.objs.size:=by obtain ⟨n,e⟩:=p;exact Heap.lt_size e
 refine call_sum_walkG (iter_intList hl' fun s₂ e stt hfp hlI=>?_)
 subst e
 refine ⟨_,_,_,_,_,_,numAt xs,rfl,Walks.list (A:=A.in1) (hA.handled hh) _ a hlI (intItems xs),stt,hfp,(fun z1 z2=>intItems_at),fun h' tk t' hk=>?_⟩
 have hx:Ext s.heap h':=old_kept hk
 have hsum:preSum (numAt xs) (intItems xs).size=ys.sum:=by
  have:(intItems xs).size=xs.size:=by simp [intItems]
  rw [this,preSum_eq,List.take_of_length_le (by simp),e2]
 rw [hsum]
 exact ⟨_,σ,h,.ext hx rfl rfl,st.ext hx,by simp only [VRel];exact ⟨_,rfl⟩⟩
theorem zpb {va vb:V} {as bs:List V} (ha:IsLst σ va as) (hb:IsLst σ vb bs) (hsz:as.length+bs.length<=1000000) (h:P (.lst (as++bs)) σ):Op2 c d (binaryOp .Add) va vb σ P:=by
 intro A s E ca cb _ st ra rb
 have hq:=ha.plain st ra
 (try clear rs)
 obtain ⟨a,cs,rfl,⟨n,e⟩,_,rs⟩:=hq
 obtain ⟨b,ds,rfl,⟨n',e'⟩,_,rs'⟩:=hb.plain st rb
 have h1:=rs.length
 have h2:=rs'.length
 have hs':sizeLine=16777216:=by rw [sizeLine_eq]
 refine PySem.P.add_list (hsz:=by simp only [List.size_toArray];(exact Ar.l05 (.le (.a (.v 0) (.v 1)) (.v 2)) [(.le (.a (.v 3) (.v 4)) (.k 1000000)),(.eq (.v 0) (.v 3)),(.eq (.v 1) (.v 4)),(.eq (.v 2) (.k 16777216))] (by kernel_rfl) hsz h1 h2 hs')) e e' ?_
 have e3:cs.toArray++ds.toArray=(cs++ds).toArray:=by simp
 rw [e3]
 exact Post.newLst (n:=0) st (by rw [List.length_append];(exact Ar.l05 (.le (.a (.v 0) (.v 1)) (.v 2)) [(.le (.a (.v 3) (.v 4)) (.k 1000000)),(.eq (.v 0) (.v 3)),(.eq (.v 1) (.v 4)),(.eq (.v 2) (.k 16777216))] (by kernel_rfl) hsz h1 h2 hs')) (rs.append rs') h
theorem zwz {lv:V} {vs:List V} (hl:IsLst σ lv vs) (h:P (.lst vs) σ):CallS c d (.type "list") [lv] σ P X:=by
 intro A s E cs hA st rs _
 obtain ⟨x,rfl,r⟩:=rs.un1
 have hq:=hl.plain st r
 (try clear rs)
 obtain ⟨a,cs,rfl,⟨n,e⟩,hsz,rs⟩:=hq
 refine call_list_seq (hsz:=by simpa using hsz) a (.inl rfl) e rfl rfl fun h' c' hx hn=>?_
 have hx:Ext s.heap h':=hx
 refine ⟨.lst vs,σ,h,.ext hx rfl rfl,st.ext hx,?_⟩
 simp only [VRel]
 exact ⟨_,cs,rfl,st.newS,⟨c',hn⟩,hsz,VRels.mono hx.kept .refl vs cs rs⟩
mutual
noncomputable def toD:V->PyData
 | .none=>.none
 | .bool b=>.bool b
 | .int i=>.int i
 | .str x=>.str x
 | .tup vs=>.tuple (zin vs)
 | .lst vs=>.list (zin vs)
 | _=>.none
noncomputable def zin:List V->List PyData
 | []=>[]
 | v::vs=>toD v::zin vs
end
mutual
noncomputable def isD:V->Bool
 | .none=>true
 | .bool _=>true
 | .int _=>true
 | .str x=>PyData.strOk x
 | .tup vs=>zms vs
 | .lst vs=>zms vs
 | _=>false
noncomputable def zms:List V->Bool
 | []=>true
 | v::vs=>isD v && zms vs
end
mutual
theorem zfv:∀ (v:V),isD v=true->(toD v).canLay0=true
 | .none,_=>by simp [toD,PyData.canLay0]
 | .bool _,_=>by simp [toD,PyData.canLay0]
 | .int _,_=>by simp [toD,PyData.canLay0]
 | .str x,h=>by simpa [toD,PyData.canLay0,isD] using h
 | .tup vs,h=>by simp only [toD,PyData.canLay0];exact zg1 vs (by simpa [isD] using h)
 | .lst vs,h=>by simp only [toD,PyData.canLay0];exact zg1 vs (by simpa [isD] using h)
 | .set _ _,h=>by simp [isD] at h
 | .rng _ _,h=>by simp [isD] at h
 | .ref _,h=>by simp [isD] at h
 | .raw _,h=>by simp [isD] at h
theorem zg1:∀ (vs:List V),zms vs=true->PyData.canLayAll0 (zin vs)=true
 | [],_=>by simp [zin,PyData.canLayAll0]
 | v::vs,h=>by
  simp only [zms,Bool.and_eq_true] at h
  simp only [zin,PyData.canLayAll0,Bool.and_eq_true]
  exact ⟨zfv v h.1,zg1 vs h.2⟩
end
mutual
theorem VRel.reads {h:Heap} {own:List Addr}:∀ (v:V) (cv:Value),isD v=true->VRel h own v cv->∃ as,Reads h cv (toD v) as
 | .none,_,_,r=>by simp only [VRel] at r;subst r;exact ⟨[],.none⟩
 | .bool b,_,_,r=>by simp only [VRel] at r;subst r;exact ⟨[],.bool b⟩
 | .int i,_,_,r=>by simp only [VRel] at r;obtain ⟨t,rfl⟩:=r;exact ⟨[],.int i t⟩
 | .str x,_,_,r=>by simp only [VRel] at r;obtain ⟨t,rfl⟩:=r;exact ⟨[],.str x t⟩
 | .tup vs,_,hd,r=>by
  simp only [VRel] at r
  obtain ⟨a,cs,rfl,_,⟨n,e⟩,_,rs⟩:=r
  obtain ⟨as,ra⟩:=VRels.reads vs cs (by simpa [isD] using hd) rs
  exact ⟨as,.tuple e rfl rfl (by simpa using ra)⟩
 | .lst vs,_,hd,r=>by
  simp only [VRel] at r
  obtain ⟨a,cs,rfl,_,⟨n,e⟩,_,rs⟩:=r
  obtain ⟨as,ra⟩:=VRels.reads vs cs (by simpa [isD] using hd) rs
  exact ⟨a::as,.list e rfl rfl (by simpa using ra)⟩
 | .set _ _,_,h,_=>by simp [isD] at h
 | .rng _ _,_,h,_=>by simp [isD] at h
 | .ref _,_,h,_=>by simp [isD] at h
 | .raw _,_,h,_=>by simp [isD] at h
theorem VRels.reads {h:Heap} {own:List Addr}:∀ (vs:List V) (cs:List Value),zms vs=true->VRels h own vs cs->∃ as,ReadsAll h cs (zin vs) as
 | [],_,_,r=>by simp only [VRels] at r;subst r;exact ⟨[],.nil⟩
 | v::vs,_,hd,r=>by
  simp only [zms,Bool.and_eq_true] at hd
  simp only [VRels] at r
  obtain ⟨x,xs,rfl,r1,rs⟩:=r
  obtain ⟨as,ra⟩:=VRel.reads v x hd.1 r1
  obtain ⟨bs,rb⟩:=VRels.reads vs xs hd.2 rs
  exact ⟨as++bs,.cons ra rb⟩
end
inductive Dat (σ:Led):V->PyData->Prop
 | val {v:V}:isD v=true->Dat σ v (toD v)
 | ref {a:Addr} {vs:List V}:σ.lookup a=some (.list vs)->zms vs=true->Dat σ (.ref a) (.list (zin vs))
theorem Dat.reads {A:Around} {h:Heap} {v:V} {cv:Value} {x:PyData} (i:Dat σ v x) (st:St c A σ h) (r:VRel h (zah c σ) v cv):(∃ as,Reads h cv x as)/\x.canLay0=true:=by
 cases i with
 | val hd=>exact ⟨VRel.reads v cv hd r,zfv v hd⟩
 | ref hl hd=>
  simp only [VRel] at r;subst r
  obtain ⟨cs,⟨n,e⟩,_,rs⟩:=st.objs _ _ (zad hl)
  obtain ⟨as,ra⟩:=VRels.reads _ cs hd rs
  exact ⟨⟨_,.list e rfl rfl (by simpa using ra)⟩,by simp only [PyData.canLay0];exact zg1 _ hd⟩
theorem units_ok {A:Around} (h:AOk c.k d A):A.units+65<cLine:=by
 have h1:=h.units
 have h2:cLine=9900:=by decide
 rw [h2];(exact Ar.l02 (.lt (.a (.v 0) (.k 65)) (.k 9900)) [(.lt (.a (.v 0) (.m 20 (.v 1))) (.k 9000))] (by kernel_rfl) h1)
theorem zrg {va vb:V} {x y:PyData} (ha:Dat σ va x) (hb:Dat σ vb y) (hx:x.depth<=20) (hy:y.depth<=20) (h:P (.bool (PyData.eqv x y)) σ):Op2 c d (compareOp .Eq) va vb σ P:=by
 intro A s E ca cb hA st ra rb
 obtain ⟨⟨as,ra⟩,la⟩:=ha.reads st ra
 obtain ⟨⟨bs,rb⟩,lb⟩:=hb.reads st rb
 have hu:=units_ok hA
 exact compareEq_shaped ra rb (by unfold shaped;rw [la];simp;(exact Ar.l01 (.le (.v 0) (.k 64)) [(.le (.v 0) (.k 20))] (by kernel_rfl) hx)) (by unfold shaped;rw [lb];simp;(exact Ar.l01 (.le (.v 0) (.k 64)) [(.le (.v 0) (.k 20))] (by kernel_rfl) hy)) (by exact Ar.l02 (.lt (.a (.v 0) (.k 64)) (.v 1)) [(.lt (.a (.v 0) (.k 65)) (.v 1))] (by kernel_rfl) hu) (Post.same' st h (by simp only [VRel]))
theorem zzz {va vb:V} {x y:PyData} (ha:Dat σ va x) (hb:Dat σ vb y) (hx:x.depth<=20) (hy:y.depth<=20) (h:P (.bool (!PyData.eqv x y)) σ):Op2 c d (compareOp .NotEq) va vb σ P:=by
 intro A s E ca cb hA st ra rb
 obtain ⟨⟨as,ra⟩,la⟩:=ha.reads st ra
 obtain ⟨⟨bs,rb⟩,lb⟩:=hb.reads st rb
 have hu:=units_ok hA
 exact compareNe_shaped ra rb (by unfold shaped;rw [la];simp;(exact Ar.l01 (.le (.v 0) (.k 64)) [(.le (.v 0) (.k 20))] (by kernel_rfl) hx)) (by unfold shaped;rw [lb];simp;(exact Ar.l01 (.le (.v 0) (.k 64)) [(.le (.v 0) (.k 20))] (by kernel_rfl) hy)) (by exact Ar.l02 (.lt (.a (.v 0) (.k 64)) (.v 1)) [(.lt (.a (.v 0) (.k 65)) (.v 1))] (by kernel_rfl) hu) (Post.same' st h (by simp only [VRel]))
theorem zz0 {va vb:V} {x:PyData} {ys:List PyData} (ha:Dat σ va x) (hb:Dat σ vb (.list ys)) (hx:x.depth<=20) (h:P (.bool (ys.any fun y=>PyData.eqv y x)) σ):Op2 c d (compareOp .In) va vb σ P:=by
 intro A s E ca cb hA st ra rb
 obtain ⟨⟨as,ra⟩,la⟩:=ha.reads st ra
 obtain ⟨⟨bs,rb⟩,lb⟩:=hb.reads st rb
 have hu:=hA.units
 have h2:cLine=9900:=by decide
 have h3:min (PyData.depthAll ys) x.depth<=x.depth:=Nat.min_le_right _ _
 exact in_list_reads rb ra (by simpa [PyData.canLay0] using lb) la (by exact Ar.l05 (.lt (.a (.a (.v 0) (.k 1)) (.v 1)) (.v 2)) [(.le (.v 3) (.k 20)),(.lt (.a (.v 0) (.m 20 (.v 4))) (.k 9000)),(.eq (.v 2) (.k 9900)),(.le (.v 1) (.v 3))] (by kernel_rfl) hx hu h2 h3) (Post.same' st h (by simp only [VRel]))
theorem zx7 (vs:List V):zms vs=true ↔ ∀ v∈vs,isD v=true:=by
 induction vs with
 | nil=>simp [zms]
 | cons v r ih=>simp [zms,ih]
theorem WA.mono {t:Expr} {v:V} {K K':zaf->Led->Prop} (h:WA c d sc t v m σ K X) (k:∀ m' σ',K m' σ'->K' m' σ'):WA c d sc t v m σ K' X:=fun env A s E cv r rv=>
 wpAny_mono (h env A s E cv r rv) (fun z1 z2=>.imp k) fun z1 z2 x=>x
theorem z0l {t:Expr} {v:V} {m':zaf} {K:zaf->Led->Prop} (k:Sub m' m) (h:WA c d sc t v m' σ K X):WA c d sc t v m σ K X:=
 fun env A s E cv r rv=>h env A s E cv ⟨r.sc,r.ok,r.fr,r.a,r.st,r.er.sub k,r.e⟩ rv
theorem bits_of_layable:∀ {xs:List Int},(PyData.list (xs.map .int)).layable0=true->∀ x∈xs,Builtin.Int.intBits x<=1048576:=by
 intro xs h
 have hw:PyData.weightAll (xs.map .int)<=1048576:=by
  simp only [PyData.layable0,Bool.and_eq_true,decide_eq_true_eq,PyData.weight] at h
  exact of_decide_eq_true h.2
 clear h
 induction xs with
 | nil=>intro x hx;cases hx
 | cons a r ih=>
  simp only [List.map_cons,PyData.weightAll,PyData.weight] at hw
  intro x hx
  rcases List.mem_cons.mp hx with rfl | hx
  ·show (if x == 0 then 0 else x.natAbs.log2+1)<=_
   (exact Ar.l02 (.le (.v 0) (.k 1048576)) [(.le (.a (.a (.v 0) (.k 1)) (.v 1)) (.k 1048576))] (by kernel_rfl) hw)
  ·exact ih (by exact Ar.l02 (.le (.v 0) (.k 1048576)) [(.le (.a (.a (.v 1) (.k 1)) (.v 0)) (.k 1048576))] (by kernel_rfl) hw) x hx
end Mine
namespace Mine
open PySem
end Mine
namespace Mine
open PySem
variable {c:Cx} {d:Nat} {σ:Led}
def Sz (n:Nat) (x:Int):Prop:=x.natAbs<2 ^ n
set_option tactic.hygienic true
theorem Sz.bits {n:Nat} {x:Int} (h:Sz n x):Builtin.Int.intBits x<=n:=by
 unfold Builtin.Int.intBits
 split
 ·(exact Ar.l01 (.le (.k 0) (.v 0)) [] (by kernel_rfl) )
 ·rename_i hz
  have h0:x.natAbs≠0:=by simpa using hz
  have:=(Nat.log2_lt h0).mpr h
  (exact Ar.l02 (.le (.a (.v 0) (.k 1)) (.v 1)) [(.lt (.v 0) (.v 1))] (by kernel_rfl) this)
theorem Sz.of_bits {n:Nat} {x:Int} (h:Builtin.Int.intBits x<=n):Sz n x:=by
 unfold Builtin.Int.intBits at h
 unfold Sz
 split at h
 ·rename_i hz
  have:x=0:=by simpa using hz
  subst this
  exact Nat.two_pow_pos n
 ·rename_i hz
  have h0:x.natAbs≠0:=by simpa using hz
  exact (Nat.log2_lt h0).mp (by exact Ar.l02 (.lt (.v 0) (.v 1)) [(.le (.a (.v 0) (.k 1)) (.v 1))] (by kernel_rfl) h)
set_option tactic.hygienic false
theorem Sz.mono {n k:Nat} {x:Int} (h:Sz n x) (hk:n<=k):Sz k x:=Nat.lt_of_lt_of_le h (Nat.pow_le_pow_right (by decide) hk)
theorem Sz.mul {n k:Nat} {x y:Int} (h:Sz n x) (h':Sz k y):Sz (n+k) (x * y):=by
 unfold Sz
 rw [Int.natAbs_mul,Nat.pow_add]
 exact Nat.mul_lt_mul'' h h'
theorem Sz.add {n:Nat} {x y:Int} (h:Sz n x) (h':Sz n y):Sz (n+1) (x+y):=by
 unfold Sz at *
 rw [Nat.pow_succ]
 have:=Int.natAbs_add_le x y
 exact Nat.lt_of_le_of_lt this (by rw [Nat.mul_two];exact Nat.add_lt_add h h')
theorem Sz.small {x:Int} (h1:-9223372036854775808<x) (h2:x<9223372036854775808):Sz 64 x:=Sz.of_bits (zcy h1 h2)
theorem Sz.div {n:Nat} {x y:Int} (h:Sz n x) (hy:0<y):Sz n (x / y):=Nat.lt_of_le_of_lt (Int.natAbs_ediv_le_natAbs x y) h
theorem z23 {P:V->Led->Prop} {x:Int} {n:Nat} (h:Sz n x) (hn:n<=40000000) (hq:P (.int (x ^ 3)) σ):Op2 c d (binaryOp .Pow) (.int x) (.int 3) σ P:=
 z0r (x:=x) (n:=3) (by decide) (Nat.le_trans (Nat.mul_le_mul_right 3 (Nat.le_trans h.bits hn)) (by decide)) hq
end Mine
end
section
namespace Mine
open PySem
variable {c:Cx} {d:Nat} {sc:Scope} {m:zaf} {σ:Led} {P P':V->Led->Prop} {X:XP} {K:Fl->zaf->Led->Prop} {N:zaf->Led->Prop}
theorem ztt {α β:Type} (f:α->β) (lo hi:Option Int) (xs:List α):slice lo hi (xs.map f)=(slice lo hi xs).map f:=by
 unfold slice;simp [List.map_take,List.map_drop]
theorem zqz {n:Int} (hn:0<=n) (k l:Nat):zov (some n) k l=min n.toNat l:=by
 obtain ⟨i,rfl⟩:=Int.eq_ofNat_of_zero_le hn
 show (max 0 (min (if (i:Int)<0 then (i:Int)+l else i) l)).toNat=min i l
 rw [if_neg (Int.not_lt.mpr hn),Int.max_eq_right (Int.le_min.mpr ⟨hn,Int.natCast_nonneg l⟩)]
 rcases Nat.le_total i l with h | h
 ·rw [Int.min_eq_left (Int.ofNat_le.mpr h),Nat.min_eq_left h];rfl
 ·rw [Int.min_eq_right (Int.ofNat_le.mpr h),Nat.min_eq_right h];rfl
theorem zjj {α:Type} (n:Int) (hn:0<=n) (xs:List α):slice none (some n) xs=xs.take n.toNat:=by
 unfold slice
 rw [zqz hn,List.take_eq_take_min (i:=n.toNat)];rfl
theorem zrr {α:Type} (n:Int) (hn:0<=n) (xs:List α):slice (some n) none xs=xs.drop n.toNat:=by
 unfold slice
 rw [zqz hn,List.drop_eq_drop_min (i:=n.toNat),List.take_of_length_le]
 rw [List.length_drop];exact Nat.le_refl _
theorem zqs {v:V} (h:isD v=true):PyData.eqv (toD v) (toD v)=true:=by
 first
  | exact SeqAt.eqv_refl _ (zfv v h)
  | exact PyData.eqv_refl _ (zfv v h)
  | exact eqv_refl _ (zfv v h)
  | exact P3.eqv_refl _ (zfv v h)
end Mine
end
section
namespace Mine
open PySem
variable {c:Cx} {d:Nat} {sc:Scope} {m:zaf} {σ:Led} {P:V->Led->Prop} {X:XP} {K:Fl->zaf->Led->Prop}
noncomputable def upd (a:Addr) (o:O):Led->Led
 | []=>[]
 | (b,x)::r=>if b=a then (b,o)::r else (b,x)::upd a o r
theorem zb4 {a:Addr} {o x:O} {r:Led}:upd a o ((a,x)::r)=(a,o)::r:=by simp [upd]
theorem zc7 {a b:Addr} {o x:O} {r:Led} (h:b≠a):upd a o ((b,x)::r)=(b,x)::upd a o r:=by simp [upd,h]
theorem zai {a:Addr} {o:O} {r:Led}:List.lookup a ((a,o)::r)=some o:=by simp
theorem zam {a b:Addr} {o x:O} {r:Led} (h:a≠b) (h2:List.lookup a r=some o):List.lookup a ((b,x)::r)=some o:=by
 rw [List.lookup_cons,beq_eq_false_iff_ne.mpr h];exact h2
theorem O.self (a:Addr) (o:O):a∈o.addrs a:=by cases o <;> simp [O.addrs]
theorem zet {a:Addr} {o o':O} (h1:o'.addrs a=o.addrs a):∀ {σ:Led},σ.lookup a=some o->zab (upd a o' σ)=zab σ
 | [],h=>by simp at h
 | (b,x)::r,h=>by
  rw [List.lookup_cons] at h
  by_cases q:b=a
  ·subst q
   simp only [beq_self_eq_true] at h
   cases h
   rw [zb4]
   show o'.addrs b++zab r=_
   rw [h1];rfl
  ·rw [beq_eq_false_iff_ne.mpr (fun e=>q e.symm)] at h
   rw [zc7 q]
   show x.addrs b++zab (upd a o' r)=x.addrs b++zab r
   rw [zet h1 h]
theorem z1k {a:Addr} {o o':O}:∀ {σ:Led},(zab σ).Nodup->σ.lookup a=some o->∀ {b:Addr} {x:O},(b,x)∈upd a o' σ->(b=a/\x=o')\/((b,x)∈σ/\∀ z∈o.addrs a,z∉x.addrs b):=by
 intro σ
 induction σ with
 | nil=>exact fun z1 h=>nomatch h
 | cons p r ih=>
  intro hnd h b x hm
  rw [show p=(p.1,p.2) from rfl,List.lookup_cons] at h
  have hnd:=List.nodup_append.mp hnd
  by_cases q:p.1=a
  ·rw [beq_iff_eq.mpr q.symm] at h
   rw [show p=(a,o) from Prod.ext q (Option.some.inj h),zb4] at hm
   rcases List.mem_cons.mp hm with e | e
   ·exact .inl ⟨congrArg Prod.fst e,congrArg Prod.snd e⟩
   ·exact .inr ⟨.tail _ e,fun z hz hb=>hnd.2.2 z (by rw [show p=(a,o) from Prod.ext q (Option.some.inj h)];exact hz) z (mem_owned.mpr ⟨b,x,e,hb⟩) rfl⟩
  ·rw [beq_eq_false_iff_ne.mpr fun e=>q e.symm] at h
   rw [show p=(p.1,p.2) from rfl,zc7 q] at hm
   rcases List.mem_cons.mp hm with e | e
   ·exact .inr ⟨e ▸ .head _,fun z hz hb=>hnd.2.2 z (by cases e;exact hb) z (mem_owned.mpr ⟨a,_,zad h,hz⟩) rfl⟩
   ·exact (ih hnd.2.1 h e).imp id fun e=>⟨.tail _ e.1,e.2⟩
theorem ORel.writeOwn {own:List Addr} {h h':Heap} {K:Base} {D a:Addr} {o:O} (hD:D∈own) (k:But D h h') (ha:D∉o.addrs a) (r:ORel K h own a o):ORel K h' own a o:=by
 cases o with
 | list vs=>
  obtain ⟨cs,⟨n,e⟩,hl,rs⟩:=r
  exact ⟨cs,⟨n,k a _ (fun q=>ha (by simp [O.addrs,q])) e⟩,hl,rs.carry (But.carriesHid hD k)⟩
 | dictI _=>exact DictR.carry r (fun ob' e=>k a _ (fun q=>ha (by simp [O.addrs,q])) e) (But.carriesHid hD k)
 | dictS _=>exact DictR.carry r (fun ob' e=>k a _ (fun q=>ha (by simp [O.addrs,q])) e) (But.carriesHid hD k)
 | inst _ _ _=>exact InstR.carry r (fun b hb ob' e=>k b _ (fun q=>ha (by subst q;simpa [O.addrs] using hb)) e) (But.carriesHid hD k)
 | exc C=>obtain ⟨o,vs,e,q1,q2⟩:=r;exact ⟨o,vs,k a _ (fun q=>ha (by simp [O.addrs,q])) e,q1,q2⟩
theorem za3 {a:Addr} {o:O} (hl:σ.lookup a=some o):a∈zab σ:=mem_owned.mpr ⟨a,_,zad hl,O.self _ _⟩
theorem St.updO {A:Around} {h h':Heap} {a D:Addr} {o o':O} (st:St c A σ h) (hl:σ.lookup a=some o) (hD:D∈o.addrs a) (ho:o'.addrs a=o.addrs a) (k:But D h h') (r:ORel c.k h' (zah c σ) a o'):St c A (upd a o' σ) h':=by
 have hao:D∈zab σ:=mem_owned.mpr ⟨a,_,zad hl,hD⟩
 have hown:zab (Mine.upd a o' σ)=zab σ:=zet ho hl
 have hownS:zah c (Mine.upd a o' σ)=zah c σ:=by unfold zah;rw [hown]
 have haS:D∈zah c σ:=List.mem_append_right _ hao
 obtain ⟨l,hl',hf,hd⟩:=st.frames
 refine ⟨fun b o e=>k b o (fun q=>?_) (st.keep b o e),by rw [hown];exact st.nodup,by rw [hown];exact st.fresh,fun b o hm=>?_,⟨l,hl',zby hf fun L hL=>?_,fun L hL=>⟨?_,(hd L hL).2.1,fun o e=>?_⟩⟩,fun b hb=>?_,fun b hb=>?_⟩
 ·subst q;rw [st.fresh _ hao] at e;cases e
 ·rw [hownS]
  rcases z1k st.nodup hl hm with ⟨rfl,rfl⟩ | ⟨hm',hne⟩
  ·exact r
  ·exact (st.objs b o hm').writeOwn haS k (hne D hD)
 ·obtain ⟨_,o,ho,hnf⟩:=hf.mem hL
  exact ⟨o,k L o (fun q=>(hd L hL).1 (q ▸ hao)) ho,hnf⟩
 ·rw [hown];exact (hd L hL).1
 ·obtain ⟨_,o',ho,_⟩:=hf.mem hL
  rw [k L o' (fun q=>(hd L hL).1 (q ▸ hao)) ho] at e
  cases e;exact (hd L hL).2.2 _ ho
 ·obtain ⟨o,e⟩:=st.prot b hb
  by_cases q:b=D
  ·subst q;exact r.there (ho ▸ hD)
  ·exact ⟨o,k b o q e⟩
 ·obtain ⟨q1,o,e⟩:=st.hid b hb
  rw [hown]
  exact ⟨q1,o,k b o (fun q=>q1 (q ▸ hao)) e⟩
theorem St.upd {A:Around} {h h':Heap} {a:Addr} {vs ws:List V} {cs:List Value} (st:St c A σ h) (hl:σ.lookup a=some (.list vs)) (k:But a h h') (p:PlainSeq h' "list" a cs) (hsz:cs.length<=sizeLine)
  (r:VRels h (zah c σ) ws cs):St c A (upd a (.list ws) σ) h':=
 st.updO hl (O.self _ _) rfl k ⟨cs,p,hsz,r.carry (But.carriesHid (List.mem_append_right _ (za3 hl)) k)⟩
theorem Step.updO {s:Shared} {h':Heap} {a D:Addr} {o o':O} {t:Nat} (hl:σ.lookup a=some o) (hD:D∈o.addrs a) (ho:o'.addrs a=o.addrs a) (hF:D∉c.F) (hL:∃ o,h'.get? D=some o) (k:But D s.heap h'):Step c.F (zab σ) (zab (upd a o' σ)) s { s with heap:=h',toks:=t }:=by
 have hao:D∈zab σ:=mem_owned.mpr ⟨a,_,zad hl,hD⟩
 rw [zet ho hl]
 exact ⟨Kept.of fun b o e hb=>k b o (fun q=>hb (q ▸ hao)) e,zl0 hL k,fun b hb o e=>k b o (fun q=>hF (q ▸ hb)) e,.refl,rfl,rfl⟩
theorem Step.upd {s:Shared} {h':Heap} {a:Addr} {o o':O} {t:Nat} (hl:σ.lookup a=some o) (ho:o'.addrs a=o.addrs a) (hF:a∉c.F) (hL:∃ o,h'.get? a=some o) (k:But a s.heap h'):Step c.F (zab σ) (zab (upd a o' σ)) s { s with heap:=h',toks:=t }:=
 .updO hl (O.self _ _) ho hF hL k
theorem SameBut.but {a:Addr} {h h':Heap} (k:Heap.SameBut a h h'):But a h h':=fun b o hb e=>by rw [k.2 b hb];exact e
theorem za9 {a:Addr} {vs:List V} (hl:σ.lookup a=some (.list vs)):zzp c σ (.ref a) "append" "list" "list.append":=by
 refine ⟨PySem.F.plainAttrs_list,PySem.F.slot_list_append,PySem.F.type_list_append,fun A s cv st r=>?_⟩
 obtain ⟨b,cs,rfl,p,_⟩:=(IsLst.ref hl).plain st r
 obtain ⟨n,e⟩:=id p
 exact ⟨p.isList.typeIs,fun b' q=>by cases q;exact ⟨_,e,rfl⟩⟩
theorem zba {a:Addr} {vs:List V} {v:V} (hl:σ.lookup a=some (.list vs)) (hF:a∉c.F) (hsz:vs.length<16777216) (h:P .none (upd a (.list (vs++[v])) σ)):CallS c d (.builtin "list.append") [.ref a,v] σ P X:=by
 intro A s E cs hA st rs _
 obtain ⟨x,y,rfl,r1,r2⟩:=rs.un2
 simp only [VRel] at r1;subst r1
 obtain ⟨cs,p,hl',rs'⟩:=st.objs _ _ (zad hl)
 have hlen:=rs'.length
 refine wpAny_list_append_plain (items:=cs.toArray) p (fun h' hp hs=>?_) (by simpa using hl')
 have hk:But a s.heap h':=SameBut.but hs
 have hp':PlainSeq h' "list" a (cs++[y]):=by
  have e:cs.toArray.push y=(cs++[y]).toArray:=by simp
  rw [e] at hp;exact hp
 refine ⟨.none,_,h,.upd (t:=s.toks) hl rfl hF (hp'.elim fun z1 e=>⟨_,e⟩) hk,st.upd hl hk hp' ?_ (rs'.append (.one r2)),rfl⟩
 rw [List.length_append,sizeLine_eq,hlen];exact hsz
def zei (c:Cx) (d:Nat) (ov iv v:V) (σ:Led) (K:Led->Prop):Prop:=
 ∀ (A:Around) (s:Shared) (E:Value->Shared->Prop) (co ci cv:Value),AOk c.k d A->St c A σ s.heap->VRel s.heap (zah c σ) ov co->VRel s.heap (zah c σ) iv ci->VRel s.heap (zah c σ) v cv->
  wpAny c.M A (setItem co ci cv) (fun z1 s'=>PostK c A σ s K s') E s
theorem zgk {M:Model} {A:Around} {E:Value->Shared->Prop} {s:Shared} {env:Env} {o i:Expr} {pos:Pos} {v:Value} {Q:Unit->Shared->Prop}
  (h:wpAny M A (eval o env) (fun ov s₂=>wpAny M A (eval i env) (fun iv s₃=>wpAny M A (setItem ov iv v) (fun z1 s₄=>Q () s₄) E s₃) E s₂) E s):wpAny M A (assign (.Subscript o i pos) env v) Q E s:=by
 rw [assign_Subscript]
 refine wpAny_bind (wpAny_holding (wpAny_mono h (fun ov s₂ h₂=>?_) fun z1 z2 x=>x))
 refine wpAny_bind (wpAny_holding (wpAny_mono h₂ (fun iv s₃ h₃=>?_) fun z1 z2 x=>x))
 exact wpAny_bind (wpAny_standAt (wpAny_bind (wpAny_holding (wpAny_mono h₃ (fun z1 s₄ h₄=>zb3 h₄) fun z1 z2 x=>x))))
theorem z2r {o i:Expr} {pos:Pos} {v:V} {K:zaf->Led->Prop} (h:WE c d sc o m σ (fun ov σ₁=>WE c d sc i m σ₁ (fun iv σ₂=>zei c d ov iv v σ₂ (fun σ₃=>K m σ₃)) X) X):WA c d sc (.Subscript o i pos) v m σ K X:=by
 intro env A s E cv r rv
 refine zgk (wpAny_mono (h env A s E r.re) ?_ fun z1 z2 x=>x)
 rintro co s₁ ⟨ov,σ₁,h₁,t₁,hs₁,ro⟩
 have r₁:=r.estep t₁ hs₁
 refine wpAny_mono (h₁ env A s₁ E r₁.re) ?_ fun z1 z2 x=>x
 rintro ci s₂ ⟨iv,σ₂,h₂,t₂,hs₂,ri⟩
 have r₂:=r₁.estep t₂ hs₂
 refine wpAny_mono (h₂ A s₂ E co ci cv r.a hs₂ (t₂.v ro) ri (t₂.v (t₁.v rv))) ?_ fun z1 z2 x=>x
 rintro _ s₃ ⟨σ₃,h₃,t₃,hs₃⟩
 exact ⟨m,σ₃,h₃,(t₁.trans (t₂.trans t₃)).wider,hs₃,r₂.er.mono t₃.kept.wider t₃.grow.wider⟩
theorem zgu (its:Array Value) (n:Nat) (i:Nat) (x:Value):∃ n',Obj.mapSeq (·.setIfInBounds i x) { cls:=.type "list",data:=.seq its n }={ cls:=.type "list",data:=.seq (its.setIfInBounds i x) n' }:=by
 simp [Obj.mapSeq]
theorem zrs {prog:Program} {w:World} {A:Around} {E:Value->Shared->Prop} {s:Shared} {a:Addr} {cs:List Value} {k:Int} {t:Tok} {j:Nat} {v:Value} {Q:Unit->Shared->Prop} (p:PlainSeq s.heap "list" a cs) (hj:place k cs.length=some j) (hsz:cs.length<=sizeLine)
  (hQ:∀ h',PlainSeq h' "list" a (cs.set j v)->But a s.heap h'->Q () { s with heap:=h' }):wpAny (model prog w) A (setItem (.ref a) (.int k t) v) Q E s:=by
 obtain ⟨n,ho⟩:=id p
 have hl:=p.isList
 obtain ⟨hj1,hj2,hj3⟩:=zkp hj
 rw [sizeLine_eq] at hsz
 unfold setItem
 refine wpAny_holding ?_
 refine wpAny_bind (wpAny_sequenceKey hl.typeIs (by decide) ?_)
 refine wpAny_bind (wpAny_callSpecial?_slot (name:=Str.ofString "__setitem__") hl.typeIs slot_list_setitem
  (wpAny_call_entry slot_list_setitem hl.typeIs entry_list_setitem ?_ (args_list_setitem _ _ _)))
 show wpAny _ _ (Builtin.List.listSubscript? (.int k t) >>= _) _ _ s
 have hfit:Builtin.List.listFitsIndex k=true:=by
  unfold Builtin.List.listFitsIndex
  simp
  have hs:=Int.ofNat_le.mpr hsz
  exact ⟨Int.le_trans (Int.le_trans (by decide) (Int.neg_le_neg hs)) hj2,Int.lt_trans (Int.lt_of_lt_of_le hj3 hs) (by decide)⟩
 refine wpAny_bind (wpAny_listSubscript_int hfit ?_)
 have hx':cs.toArray[j]?=some cs[j]:=by simp [hj1]
 obtain ⟨n',e'⟩:=zgu cs.toArray n j v
 have hfin:PlainSeq (s.heap.update a (Obj.mapSeq (·.setIfInBounds j v))) "list" a (cs.set j v):=by
  refine ⟨n',?_⟩
  rw [Heap.get?_update_self _ ho (by rw [e'];rfl),e']
  simp
 have fin:=hQ _ hfin (SameBut.but (Heap.SameBut.update ..))
 cases k with
 | ofNat i=>
  have:j=i:=by
   have:=zbk (i:=Int.ofNat i) (Int.natCast_nonneg i) hj3
   rw [hj] at this;exact Option.some.inj this
  subst this
  show wpAny _ _ ((seqItemAt a j >>= fun r=>pure (r.map (j,·))) >>= _) _ _ s
  refine wpAny_bind (wpAny_bind (wpAny_seqItemAt ho rfl (wpAny_pure ?_)))
  rw [hx']
  show wpAny _ _ (setSeqItemAt a j v >>= _) _ _ s
  exact wpAny_bind (wpAny_setSeqItemAt ho rfl (wpAny_bind (wpAny_pure (wpAny_pure ⟨.none,rfl,wpAny_pure fin⟩))))
 | negSucc i=>
  show wpAny _ _ ((Builtin.List.listItems (.ref a) >>= fun xs=>pure ((seqIndex? (Int.negSucc i) xs.size).bind fun i=>xs[i]?.map (i,·))) >>= _) _ _ s
  refine wpAny_bind (wpAny_bind ?_)
  show wpAny _ _ (seqItems? (.ref a) >>= _) _ _ s
  refine wpAny_bind (wpAny_seqItems ho rfl (wpAny_pure (wpAny_pure ?_)))
  rw [show seqIndex? (Int.negSucc i) cs.toArray.size=some j by rw [zcm];simpa using hj]
  simp only [Option.bind_some,hx',Option.map_some]
  show wpAny _ _ (setSeqItemAt a j v >>= _) _ _ s
  exact wpAny_bind (wpAny_setSeqItemAt ho rfl (wpAny_bind (wpAny_pure (wpAny_pure ⟨.none,rfl,wpAny_pure fin⟩))))
theorem z5n {a:Addr} {vs:List V} {i:Int} {j:Nat} {v:V} {K:Led->Prop} (hl:σ.lookup a=some (.list vs)) (hF:a∉c.F) (hj:place i vs.length=some j) (h:K (upd a (.list (vs.set j v)) σ)):zei c d (.ref a) (.int i) v σ K:=by
 intro A s E co ci cv hA st ro ri rv
 simp only [VRel] at ro ri;subst ro;obtain ⟨t,rfl⟩:=ri
 obtain ⟨cs,p,hsz,rs⟩:=st.objs _ _ (zad hl)
 refine zrs p (by rw [rs.length];exact hj) hsz fun h' p' k=>?_
 exact ⟨_,h,.upd (t:=s.toks) hl rfl hF (p'.elim fun z1 e=>⟨_,e⟩) k,st.upd hl k p' (by rw [List.length_set];exact hsz) (rs.set _ rv)⟩
theorem zdt {a:Addr} {vs:List V} {i:Int} {v:V} {K:Led->Prop} (hl:σ.lookup a=some (.list vs)) (hF:a∉c.F) (h0:0<=i) (hi:i.toNat<vs.length) (h:K (upd a (.list (vs.set i.toNat v)) σ)):zei c d (.ref a) (.int i) v σ K:=
 z5n hl hF (zbk h0 ((Int.toNat_lt h0).mp hi)) h
end Mine
end
section
namespace Mine
open PySem
variable {c:Cx} {d:Nat} {sc:Scope} {m:zaf} {σ:Led} {P:V->Led->Prop} {X:XP} {K:Fl->zaf->Led->Prop}
section
variable {κ:Type} [DecidableEq κ]
noncomputable def z07 (kvs:List (κ × V)) (k:κ) (v:V):List (κ × V):=
 if kvs.any (fun kv=>kv.1=k) then kvs.map (fun kv=>if kv.1=k then (kv.1,v) else kv) else kvs++[(k,v)]
theorem zq4 {α β:Type} {kvs:List (κ × α)} {cs:List (κ × β)} (e:cs.map (·.1)=kvs.map (·.1)) (k:κ):(cs.any fun kv=>decide (kv.1=k))=kvs.any fun kv=>decide (kv.1=k):=by
 have h:∀ {γ:Type} (l:List (κ × γ)),(l.any fun kv=>decide (kv.1=k))=(l.map (·.1)).any fun x=>decide (x=k):=fun l=>by rw [List.any_map];rfl
 rw [h,h,e]
inductive KR (h:Heap) (own:List Addr):List (κ × V)->List (κ × Value)->Prop
 | nil:KR h own [] []
 | cons {p:κ × V} {q:κ × Value} {kvs:List (κ × V)} {cs:List (κ × Value)}:q.1=p.1->VRel h own p.2 q.2->KR h own kvs cs->KR h own (p::kvs) (q::cs)
section
variable {h:Heap} {own:List Addr} {k:κ} {v:V} {cv:Value} {kvs:List (κ × V)} {cs:List (κ × Value)}
theorem VRels.unc {v:V} {vs:List V} {x:Value} {xs:List Value} (r:VRels h own (v::vs) (x::xs)):VRel h own v x/\VRels h own vs xs:=by
 simp only [VRels] at r
 obtain ⟨_,_,e,r1,r2⟩:=r
 cases e
 exact ⟨r1,r2⟩
theorem VRels.con {v:V} {vs:List V} {x:Value} {xs:List Value} (r1:VRel h own v x) (r2:VRels h own vs xs):VRels h own (v::vs) (x::xs):=by
 simp only [VRels]
 exact ⟨_,_,rfl,r1,r2⟩
theorem KR.of:∀ {cs:List (κ × Value)},cs.map (·.1)=kvs.map (·.1)->VRels h own (kvs.map (·.2)) (cs.map (·.2))->KR h own kvs cs:=by
 induction kvs with
 | nil=>exact fun e z1=>List.map_eq_nil_iff.mp e ▸ .nil
 | cons p kvs ih=>
  intro cs e r
  cases cs with
  | nil=>cases e
  | cons q cs=>exact .cons (List.cons.inj e).1 (VRels.unc r).1 (ih (List.cons.inj e).2 (VRels.unc r).2)
theorem KR.both (r:KR h own kvs cs):cs.map (·.1)=kvs.map (·.1)/\VRels h own (kvs.map (·.2)) (cs.map (·.2)):=by
 induction r with
 | nil=>exact ⟨rfl,rfl⟩
 | cons e r _ ih=>exact ⟨by rw [List.map_cons,List.map_cons,e,ih.1],VRels.con r ih.2⟩
theorem KR.put (rv:VRel h own v cv) (r:KR h own kvs cs):KR h own (kvs.map fun kv=>if kv.1=k then (kv.1,v) else kv) (cs.map fun kv=>if kv.1=k then (kv.1,cv) else kv):=by
 induction r with
 | nil=>exact .nil
 | @cons p q kvs cs e r _ ih=>
  by_cases z:p.1=k
  ·rw [List.map_cons,List.map_cons,if_pos z,if_pos (e.trans z)]
   exact .cons e rv ih
  ·rw [List.map_cons,List.map_cons,if_neg z,if_neg fun w=>z (e.symm.trans w)]
   exact .cons e r ih
end
theorem zxl {h:Heap} {own:List Addr} {k:κ} {v:V} {cv:Value} {kvs:List (κ × V)} {cs:List (κ × Value)} (rv:VRel h own v cv) (e:cs.map (·.1)=kvs.map (·.1)) (r:VRels h own (kvs.map (·.2)) (cs.map (·.2))) :
  (stored cs k cv).map (·.1)=(z07 kvs k v).map (·.1)/\VRels h own ((z07 kvs k v).map (·.2)) ((stored cs k cv).map (·.2)):=by
 unfold stored z07
 rw [zq4 e k]
 cases kvs.any fun kv=>decide (kv.1=k) with
 | true=>exact ((KR.of e r).put rv).both
 | false=>
  simp only [Bool.false_eq_true,if_false,List.map_append,List.map_cons,List.map_nil]
  exact ⟨by rw [e],r.append (.one rv)⟩
structure DK (c:Cx) (knd:KeyKind c.k.prog c.k.w κ) (mk:List (κ × V)->O) (kv:κ->V):Prop where
 rel:∀ h own a kvs,ORel c.k h own a (mk kvs)=DictR c.k knd h own a kvs
 addrs:∀ a kvs,(mk kvs).addrs a=[a]
 key:∀ h own k cv,VRel h own (kv k) cv->knd.is k cv=true
variable {knd:KeyKind c.k.prog c.k.w κ} {mk:List (κ × V)->O} {kv:κ->V}
theorem zdv (D:DK c knd mk kv) {a:Addr} {kvs:List (κ × V)} {i:κ} {v:V} {K:Led->Prop} (hl:σ.lookup a=some (mk kvs)) (hF:a∉c.F) (hsz:kvs.length<=1000) (h:K (upd a (mk (z07 kvs i v)) σ)):zei c d (.ref a) (kv i) v σ K:=by
 intro A s E co ci cv hA st ro ri rv
 simp only [VRel] at ro;subst ro
 have hr:=st.objs _ _ (zad hl)
 rw [D.rel] at hr
 obtain ⟨cs,hs,p,e,rs⟩:=hr
 have hlen:cs.length=kvs.length:=by rw [← List.length_map (f:=fun x:κ × Value=>x.1),e,List.length_map]
 refine wpAny_setItem_pairs (hsz:=by rw [hlen,sizeLine_eq];lia) (D.key _ _ _ _ ri) p fun h' p' k=>?_
 have k':=SameBut.but k
 have ho:(mk (z07 kvs i v)).addrs a=(mk kvs).addrs a:=by rw [D.addrs,D.addrs]
 obtain ⟨q1,q2⟩:=zxl (k:=i) rv e rs
 refine ⟨_,h,.upd hl ho hF (p'.elim fun z1 q=>q.elim fun z1 q=>q.elim fun z1 q=>⟨_,q.1⟩) k',st.updO hl (O.self _ _) ho k' ?_⟩
 rw [D.rel]
 exact ⟨_,hs,p',q1,q2.carry (But.carriesHid (List.mem_append_right _ (za3 hl)) k')⟩
theorem zq6 (hk:c.k.OK) (D:DK c knd mk kv) {pos:Pos} (h:∀ a,a∉zab σ->a∉c.F->P (.ref a) ((a,mk [])::σ)):WE c d sc (.Dict [] [] pos) m σ P X:=by
 intro env A s E r
 refine wpAny_Dict_empty ?_
 have hn:∀ b∈(mk []).addrs s.heap.objs.size,s.heap.get? b=none:=fun b hb=>by
  rw [D.addrs,List.mem_singleton] at hb;subst hb;exact get?_size _
 obtain ⟨o,es,ep,ho,_⟩:=hk.g
 have h3:mainGlobals<s.heap.objs.size:=Heap.lt_size (r.st.keep _ _ ho)
 refine ⟨.ref s.heap.objs.size,_,h _ r.st.new r.st.newF,⟨(Ext.push _).kept,fun b o e=>⟨o,Ext.push _ b o e⟩,fun b z1 o e=>Ext.push _ b o e,.alloc hn,rfl,rfl⟩,r.st.alloc (.push _) hn (by rw [D.addrs];simp) ?_,by simp only [VRel]⟩
 rw [D.rel]
 refine ⟨[],?_,Heap.DictOf.new _,rfl,rfl⟩
 rw [beq_eq_false_iff_ne]
 intro q
 rw [q] at h3
 exact absurd h3 (by decide)
end
theorem DK.int:DK c (intKind c.k.prog c.k.w) O.dictI V.int:=⟨fun z1 z2 z3 z4=>rfl,fun z1 z2=>rfl,fun h own k cv r=>by simp only [VRel] at r;obtain ⟨t,rfl⟩:=r;exact intKind_is _ _ k t⟩
theorem DK.str:DK c (strKind c.k.prog c.k.w) O.dictS V.str:=⟨fun z1 z2 z3 z4=>rfl,fun z1 z2=>rfl,fun h own k cv r=>by simp only [VRel] at r;obtain ⟨t,rfl⟩:=r;exact strKind_is _ _ k t⟩
theorem z85 {e:Expr} {m':zaf} {P:Bool->Led->Prop} (k:Sub m' m) (h:WT c d sc e m' σ P X):WT c d sc e m σ P X:=fun env A s E r=>h env A s E ⟨r.sc,r.ok,r.a,r.st,r.er.sub k,r.e⟩
end Mine
end
section
namespace Mine
open PySem
variable {c:Cx} {d:Nat} {sc:Scope} {m:zaf} {σ:Led} {P:V->Led->Prop} {X:XP} {K:Fl->zaf->Led->Prop}
theorem zni (h:P (.bool false) σ):CallS c d (.builtin "isinstance") [.none,.raw (.type "int")] σ P X:=zqp (fun q=>IsiPair.NoneType_int (q _)) h
theorem zyq {A:Around} {h:Heap} {x:Value} {a:Addr} {kvs:List (Int × V)} (hl:σ.lookup a=some (.dictI kvs)) (st:St c A σ h) (r:VRel h (zah c σ) (.ref a) x):∃ a o,x=.ref a/\h.get? a=some o/\o.cls=.type "dict":=by
 simp only [VRel] at r;subst r
 obtain ⟨cs,_,⟨o,es,ep,ho,hex,_⟩,_⟩:=st.objs _ _ (zad hl)
 exact ⟨a,o,rfl,ho,hex.1⟩
theorem zsy {lv:V} {vs:List V} (hl:IsLst σ lv vs) (h:P (.tup vs) σ):CallS c d (.type "tuple") [lv] σ P X:=by
 intro A s E cs hA st rs _
 obtain ⟨x,rfl,r⟩:=rs.un1
 have hq:=hl.plain st r
 (try clear rs)
 obtain ⟨a,cs,rfl,p,hsz,rs⟩:=hq
 refine call_tuple_list (hsz:=by simpa using hsz) p.isList fun h' hx=>?_
 have hx:Ext s.heap h':=hx
 exact Post.step (s₁:={ s with heap:=h' }) (Step.ext hx rfl rfl) (Post.newTup (s:={ s with heap:=h' }) (n:=0) (st.ext hx) hsz (VRels.mono hx.kept .refl vs cs rs) h)
theorem zpa {as bs:List V} (ha:as≠[]) (hb:bs≠[]) (hsz:as.length+bs.length<=1000) (h:P (.tup (as++bs)) σ):Op2 c d (binaryOp .Add) (.tup as) (.tup bs) σ P:=by
 intro A s E ca cb _ st ra rb
 simp only [VRel] at ra rb
 obtain ⟨a,cs,rfl,_,⟨n,e⟩,_,rs⟩:=ra
 obtain ⟨b,ds,rfl,_,⟨n',e'⟩,_,rs'⟩:=rb
 have h1:=rs.length
 have h2:=rs'.length
 have hlen:(cs++ds).length<=sizeLine:=by rw [List.length_append,h1,h2,sizeLine_eq];exact Nat.le_trans hsz (by decide)
 refine PySem.P.add_tuple (items:=cs.toArray) (items2:=ds.toArray) e e' ?_ ?_ ?_ (by simpa using hlen)
 ·intro q
  have q:cs=[]:=by simpa using q
  subst q;exact ha (List.eq_nil_of_length_eq_zero h1.symm)
 ·intro q
  have q:ds=[]:=by simpa using q
  subst q;exact hb (List.eq_nil_of_length_eq_zero h2.symm)
 ·have e3:cs.toArray++ds.toArray=(cs++ds).toArray:=by simp
  rw [e3]
  exact Post.newTup (n:=0) st hlen (rs.append rs') h
theorem zpc {a:Addr} {vs:List V} (hl:σ.lookup a=some (.list vs)):zzp c σ (.ref a) "insert" "list" "list.insert":=by
 refine ⟨PySem.F.plainAttrs_list,PySem.F.slot_list_insert,PySem.F.type_list_insert,fun A s cv st r=>?_⟩
 obtain ⟨b,cs,rfl,p,_⟩:=(IsLst.ref hl).plain st r
 obtain ⟨n,e⟩:=id p
 exact ⟨p.isList.typeIs,fun b' q=>by cases q;exact ⟨_,e,rfl⟩⟩
theorem zmt {prog:Program} {w:World} {A:Around} {E:Value->Shared->Prop} {s:Shared} {a:Addr} {cs:List Value} {i:Int} {t:Tok} {y:Value} {Q:Value->Shared->Prop} (p:PlainSeq s.heap "list" a cs) (h0:0<=i) (hi:i.toNat<=cs.length) (hsz:cs.length<=sizeLine)
  (hQ:∀ h',PlainSeq h' "list" a (cs.take i.toNat++y::cs.drop i.toNat)->But a s.heap h'->Q .none { s with heap:=h' }):wpAny (model prog w) A (call (.builtin "list.insert") [.ref a,.int i t,y]) Q E s:=by
 obtain ⟨n,ho⟩:=id p
 have hfit:¬ (!Builtin.List.listFitsIndex i)=true:=by
  have:=fitsIndex_of h0 (Int.lt_of_le_of_lt (Int.toNat_le.mp hi) (Int.lt_of_le_of_lt (Int.ofNat_le.mpr (sizeLine_eq ▸ hsz)) (by decide)))
  simpa using this
 refine wpAny_call_entry PySem.F.slot_list_insert ⟨_,ho,rfl⟩ PySem.F.entry_list_insert ?_ (PySem.F.args_list_insert_3 _ _ _)
 obtain ⟨hp,g,dr,tk,os⟩:=s
 have hz':((fun xs:Array Value=>have k:=if i<0 then (i+((xs.size:Nat):Int)).toNat else min i.toNat xs.size;(xs.extract 0 k).push y++xs.extract k) cs.toArray).size<=sizeLine+1:=Nat.le_trans (PySem.AutoListH.size_inserted _ _ _) (Nat.add_le_add_right (by simpa using hsz) 1)
 have hz:cs.toArray.size<=sizeLine:=by simpa using hsz
 wp_walk using (wpAny_updateSeq ho rfl (hz:=hz) (_hz':=hz'))
 refine ⟨_,rfl,hQ _ ?_ (SameBut.but (Heap.SameBut.update ..))⟩
 have e:=PyProof.Rows.get?_update_seq ho (fun xs:Array Value=>have k:=if i<0 then (i+((xs.size:Nat):Int)).toNat else min i.toNat xs.size;(xs.extract 0 k).push y++xs.extract k)
 have eA:(have k:=if i<0 then (i+((cs.toArray.size:Nat):Int)).toNat else min i.toNat cs.toArray.size;(cs.toArray.extract 0 k).push y++cs.toArray.extract k)=(cs.take i.toNat++y::cs.drop i.toNat).toArray:=by
  dsimp only
  rw [if_neg (Int.not_lt.mpr h0),List.size_toArray,Nat.min_eq_left hi]
  apply Array.ext'
  simp [List.extract_eq_take_drop]
  exact List.take_of_length_le (by rw [List.length_drop];exact Nat.le_refl _)
 rw [eA] at e
 exact ⟨_,e⟩
theorem zpt {a:Addr} {vs:List V} {i:Int} {v:V} (hl:σ.lookup a=some (.list vs)) (hF:a∉c.F) (h0:0<=i) (hi:i.toNat<=vs.length) (hsz:vs.length<16777216) (h:P .none (upd a (.list (vs.take i.toNat++v::vs.drop i.toNat)) σ)):CallS c d (.builtin "list.insert") [.ref a,.int i,v] σ P X:=by
 intro A s E cs hA st rs _
 simp only [VRels,VRel] at rs
 obtain ⟨_,_,rfl,rfl,_,_,rfl,⟨t,rfl⟩,y,_,rfl,ry,rfl⟩:=rs
 obtain ⟨cs,p,hz,rs⟩:=st.objs _ _ (zad hl)
 have hlen:=rs.length
 refine zmt p h0 (by rw [hlen];exact hi) hz fun h' p' k=>?_
 refine ⟨.none,_,h,.upd (t:=s.toks) hl rfl hF (p'.elim fun z1 e=>⟨_,e⟩) k,st.upd hl k p' ?_ ((rs.take _).append ?_),rfl⟩
 ·rw [List.length_append,List.length_cons,List.length_take,List.length_drop,hlen,sizeLine_eq,Nat.min_eq_left hi,← Nat.add_assoc,Nat.add_sub_cancel' hi];exact hsz
 ·simp only [VRels]
  exact ⟨y,_,rfl,ry,rs.drop _⟩
end Mine
end
section
namespace Mine
open PySem
open PyProof.Rows (ClsAt)
variable {c:Cx} {d:Nat} {sc:Scope} {m:zaf} {σ:Led} {P:V->Led->Prop} {X:XP}
noncomputable def z08 (x:Str) (v:V):List (Str × V)->List (Str × V)
 | []=>[(x,v)]
 | p::r=>if p.1=x then (x,v)::r else p::z08 x v r
theorem zec {x:Str} {v:V} (y:Str):∀ fs:List (Str × V),(z08 x v fs).lookup y=if y=x then some v else fs.lookup y
 | []=>by
  unfold z08
  rw [List.lookup_cons]
  by_cases h:y=x
  ·rw [if_pos h,beq_iff_eq.mpr h]
  ·rw [if_neg h,beq_eq_false_iff_ne.mpr h]
 | p::r=>by
  unfold z08
  by_cases hp:p.1=x
  ·rw [if_pos hp]
   obtain ⟨p1,p2⟩:=p
   dsimp only at hp
   subst hp
   rw [List.lookup_cons,List.lookup_cons]
   by_cases h:y=p1
   ·rw [if_pos h,beq_iff_eq.mpr h]
   ·rw [if_neg h,beq_eq_false_iff_ne.mpr h]
  ·rw [if_neg hp]
   obtain ⟨p1,p2⟩:=p
   dsimp only at hp
   rw [List.lookup_cons,List.lookup_cons,zec y r]
   by_cases h:y=p1
   ·rw [beq_iff_eq.mpr h]
    dsimp only
    rw [if_neg (fun q=>hp (h ▸ q))]
   ·rw [beq_eq_false_iff_ne.mpr h]
structure Cls (k:Base) (C N:Addr) (mN:Str->Option Value):Prop where
 at_:ClsAt k.h0 C N mN
 ga:mN "__getattribute__"=none
 gh:mN "__getattr__"=none
 sa:mN "__setattr__"=none
inductive zii (k:Base) (C:Addr) (x:Str):Prop
 | mk (N:Addr) (mN:Str->Option Value):Cls k C N mN->mN x=none->typeLookup (.type "object") x=pure none->zii k C x
inductive znp (k:Base) (C:Addr) (x:Str) (f:Value):Prop
 | mk (N:Addr) (mN:Str->Option Value) (fa:Addr) (of:Obj) (fd:FuncData) (y:Option Value):Cls k C N mN->mN x=some (.ref fa)->f=.ref fa->k.h0.get? fa=some of->of.cls=.type "function"->of.data=.func fd->typeLookup (.type "object") x=pure y->znp k C x f
inductive Fld (c:Cx) (σ:Led) (ov:V) (x:Str) (v:V):Prop
 | mk (a C dd:Addr) (fs:List (Str × V)):ov=.ref a->σ.lookup a=some (.inst C dd fs)->zii c.k C x->fs.lookup x=some v->(∀ w,v≠.raw w)->Fld c σ ov x v
inductive zwp (c:Cx) (σ:Led) (ov:V) (x:Str) (f:Value):Prop
 | mk (a C dd:Addr) (fs:List (Str × V)):ov=.ref a->σ.lookup a=some (.inst C dd fs)->znp c.k C x f->fs.lookup x=none->zwp c σ ov x f
inductive z63 (h:Heap) (own:List Addr) (a C:Addr) (fs:List (Str × V)):Prop
 | mk (mA:Str->Option Value):h.Inst a C mA->(∀ x v,fs.lookup x=some v->∃ cv,mA x=some cv/\VRel h own v cv)->(∀ x,fs.lookup x=none->mA x=none)->z63 h own a C fs
theorem InstR.inst {h:Heap} {own:List Addr} {a C dd:Addr} {fs:List (Str × V)} (r:InstR h own a C dd fs):z63 h own a C fs:=by
 obtain ⟨o,mA,p1,p2,p3,p4,p5,p6,p7,p8⟩:=r
 exact ⟨mA,⟨o,p1,p2,(fun cc z=>by rw [p3] at z;cases z),.inr ⟨dd,p4,p5,p6⟩⟩,p7,p8⟩
theorem z4w {h:Heap} {own:List Addr}:∀ {v:V} {cv:Value},VRel h own v cv->(∀ r,v≠.raw r)->handedOut cv=pure cv
 | .none,_,e,_=>by simp only [VRel] at e;subst e;rfl
 | .bool _,_,e,_=>by simp only [VRel] at e;subst e;rfl
 | .int _,_,e,_=>by simp only [VRel] at e;obtain ⟨_,rfl⟩:=e;rfl
 | .str _,_,e,_=>by simp only [VRel] at e;obtain ⟨_,rfl⟩:=e;rfl
 | .tup _,_,e,_=>by simp only [VRel] at e;obtain ⟨_,_,rfl,_⟩:=e;rfl
 | .lst _,_,e,_=>by simp only [VRel] at e;obtain ⟨_,_,rfl,_⟩:=e;rfl
 | .set _ _,_,e,_=>by simp only [VRel] at e;obtain ⟨_,_,_,_,rfl,_⟩:=e;rfl
 | .rng _ _,_,e,_=>by simp only [VRel] at e;obtain ⟨_,_,_,_,rfl,_⟩:=e;rfl
 | .ref _,_,e,_=>by simp only [VRel] at e;subst e;rfl
 | .raw _,_,_,h=>absurd rfl (h _)
theorem z2o {o:Expr} {x:Str} {pos:Pos} (hb:za7 o=true) (h:WE c d sc o m σ (fun ov σ₁=>∃ v,Fld c σ₁ ov x v/\P v σ₁) X):WE c d sc (.Attribute o x pos) m σ P X:=by
 intro env A s E r
 refine PyProof.Rows.Attribute_any_ (wpAny_mono (h env A s E r) ?_ fun z1 z2 x=>x) (by rw [arm_eval_Attribute,zbi hb])
 rintro co s₁ ⟨ov,σ₁,⟨v,⟨a,C,dd,fs,rfl,hl,⟨N,mN,K,hn,hB⟩,hf,hr⟩,h₁⟩,t₁,hs₁,ro⟩
 simp only [VRel] at ro;subst ro
 obtain ⟨mA,I,p7,_⟩:=InstR.inst (hs₁.objs _ _ (zad hl))
 obtain ⟨cv,e1,e2⟩:=p7 x v hf
 obtain ⟨hh,g,dr,t,os⟩:=s₁
 obtain ⟨nm,q,bs,sn,sub,col,dd',k0,k1,k2,k3,k5,hC⟩:=ClsQ.of (K.at_.keeps hs₁.keep)
 exact load_attr hC (K.at_.keeps hs₁.keep).ns K.ga hn hB I e1 (z4w e2 hr) ⟨v,σ₁,h₁,t₁.trans .toks,hs₁,e2⟩
def zv8 (c:Cx) (d:Nat) (ov:V) (x:Str) (v:V) (σ:Led) (K:Led->Prop):Prop:=
 ∀ (A:Around) (s:Shared) (E:Value->Shared->Prop) (co cv:Value),AOk c.k d A->St c A σ s.heap->VRel s.heap (zah c σ) ov co->VRel s.heap (zah c σ) v cv->
  wpAny c.M A (setAttr co x cv) (fun z1 s'=>PostK c A σ s K s') E s
theorem z2s {o:Expr} {x:Str} {pos:Pos} {v:V} {K:zaf->Led->Prop} (h:WE c d sc o m σ (fun ov σ₁=>zv8 c d ov x v σ₁ (fun σ₂=>K m σ₂)) X):WA c d sc (.Attribute o x pos) v m σ K X:=by
 intro env A s E cv r rv
 rw [assign_Attribute]
 refine wpAny_bind (wpAny_holding (wpAny_mono (h env A s E r.re) ?_ fun z1 z2 x=>x))
 rintro co s₁ ⟨ov,σ₁,h₁,t₁,hs₁,ro⟩
 have r₁:=r.estep t₁ hs₁
 refine wpAny_bind (wpAny_standAt (wpAny_bind (wpAny_holding (wpAny_mono (h₁ A s₁ E co cv r.a hs₁ ro (t₁.v rv)) ?_ fun z1 z2 x=>x))))
 rintro _ s₂ ⟨σ₂,h₂,t₂,hs₂⟩
 exact zb3 ⟨m,σ₂,h₂,(t₁.trans t₂).wider,hs₂,r₁.er.mono t₂.kept.wider t₂.grow.wider⟩
theorem zq9 {a C dd:Addr} {fs:List (Str × V)} {x:Str} {v:V} {K:Led->Prop} (hl:σ.lookup a=some (.inst C dd fs)) (hF:dd∉c.F) (hx:zii c.k C x) (hsz:fs.length<=1000) (h:K (upd a (.inst C dd (z08 x v fs)) σ)):zv8 c d (.ref a) x v σ K:=by
 intro A s E co cv hA st ro rv
 simp only [VRel] at ro;subst ro
 obtain ⟨N,mN,Kc,hn,hB⟩:=hx
 obtain ⟨o,mA,p1,p2,p3,p4,p5,p6,p7,p8⟩:=st.objs _ _ (zad hl)
 obtain ⟨hh,g,dr,t,os⟩:=s
 obtain ⟨nm,q,bs,sn,sub,col,dd',k0,k1,k2,k3,k5,hC0⟩:=ClsQ.of Kc.at_
 have haC:a≠C:=fun q=>by rw [← q,st.fresh a (za3 hl)] at hC0;cases hC0
 have hW:Within mA (fs.map (·.1)):=fun y hy=>by
  refine Classical.byContradiction fun k=>hy (p8 y ?_)
  rw [List.lookup_eq_none_iff]
  intro p hp
  rw [bne_iff_ne]
  exact fun e=>k (List.mem_map.mpr ⟨p,hp,e.symm⟩)
 refine store_attr PySem.F.store_object (st.keep _ _ hC0) (Kc.at_.keeps st.keep).ns Kc.sa hn hB haC ⟨o,p1,p2,fun cc z=>(by rw [p3] at z;cases z),.inr ⟨dd,p4,p5,p6⟩⟩ (ns:=fs.map (·.1)) (fun h' tk' I' hk hsame=>?_) hW (by rw [List.length_map,sizeLine_eq];exact Nat.le_trans hsz (by decide))
 obtain ⟨o₁,e₁,c₁,d₁,s₁,x₁⟩:=hsame o p1
 have ho:o₁=o:=by
  have:=x₁ dd p4
  obtain ⟨a1,a2,a3,a4⟩:=o
  obtain ⟨b1,b2,b3,b4⟩:=o₁
  dsimp only at *
  subst c₁ d₁ s₁
  rw [p4,this]
 subst ho
 have kb:But dd hh h':=fun b ob hb e=>by
  by_cases q:b=a
  ·subst q;rw [p1] at e;cases e;exact e₁
  ·exact hk b ob q (fun o₀ d₀ e0 e1=>by rw [p1] at e0;cases e0;rw [p4] at e1;cases e1;exact hb) e
 have hm:dd∈(O.inst C dd fs).addrs a:=by simp [O.addrs]
 have hdS:dd∈zah c σ:=List.mem_append_right _ (mem_owned.mpr ⟨a,_,zad hl,hm⟩)
 have car:=But.carriesHid hdS kb
 obtain ⟨o₂,z1,z2,z3,z4⟩:=I'
 rw [e₁] at z1;cases z1
 have hns:h'.Ns1 dd fun y=>if y=x then some cv else mA y:=by
  rcases z4 with ⟨z,_⟩ | ⟨d',z,_,z'⟩
  ·rw [p4] at z;cases z
  ·rw [p4] at z;cases z;exact z'
 refine ⟨_,h,.updO (t:=tk') hl hm rfl hF (let ⟨od,_,_,e,_⟩:=hns;⟨od,e⟩) kb,st.updO hl hm rfl kb ⟨o₁,_,e₁,p2,p3,p4,p5,hns,fun y w e=>?_,fun y e=>?_⟩⟩
 ·rw [zec] at e
  by_cases q:y=x
  ·rw [if_pos q] at e;cases e
   exact ⟨cv,by rw [if_pos q],rv.carry car⟩
  ·rw [if_neg q] at e
   obtain ⟨cw,q1,q2⟩:=p7 y w e
   exact ⟨cw,by rw [if_neg q];exact q1,q2.carry car⟩
 ·rw [zec] at e
  by_cases q:y=x
  ·rw [if_pos q] at e;cases e
  ·rw [if_neg q] at e;rw [if_neg q];exact p8 y e
theorem zje {prog:Program} {w:World} {A:Around} {E:Value->Shared->Prop} {s:Shared} {env:Env} {o:Expr} {name:Str} {apos pos:Pos} {args:List Expr} {Q:Value->Shared->Prop} (hb:za7 o=true)
  (hfew:methodCallForm (args.length+([]:List Keyword).length) (backTo pos (starEach args env)) (backToKw pos (keywordEach [] env))=true) (hline:(apos.endLine == pos.line)=true)
  (h:wpAny (model prog w) A (eval o env) (fun ov s₁=>∀ pl,wpAny (model prog w) A (getMethod ov name pl) (fun r s₂=>wpAny (model prog w) A (callWith pos r.1 r.2 (backTo pos (starEach args env)) []) Q E s₂) E s₁) E s) :
  wpAny (model prog w) A (eval (.Call (.Attribute o name apos) args [] pos) env) Q E s:=by
 rw [arm_eval_Call,zbi hb]
 refine wpAny_bind (wpAny_mono h (fun ov s₁ h₁=>wpAny_bind (wpAny_standAt ?_)) fun z1 z2 e=>e)
 have hpos:methodCallPos true o env apos pos=pure pos:=by unfold methodCallPos;simp [hline]
 unfold methodCall
 rw [hfew]
 exact wpAny_bind (wpAny_holding (wpAny_mono (h₁ _) (fun r s₂ h₂=>wpAny_bind (wpAny_of_eq hpos h₂)) fun z1 z2 e=>e))
theorem zy7 {o:Expr} {name:Str} {apos pos:Pos} {args:List Expr} (hb:za7 o=true) (hline:(apos.endLine == pos.line)=true)
  (h:WE c d sc o m σ (fun ov σ₁=>∃ f,zwp c σ₁ ov name f/\WEs c d sc args m σ₁ (fun vs σ₂=>CallS c d f (ov::vs) σ₂ P X) X) X)
  (hs:∀ env,(starEach args env).any (·.1)=false) (hn:args.length<30) :
  WE c d sc (.Call (.Attribute o name apos) args [] pos) m σ P X:=by
 intro env A s E r
 refine zje hb ?_ hline (wpAny_mono (h env A s E r) ?_ fun z1 z2 x=>x)
 ·have h1:(backTo pos (starEach args env)).all (fun x=>!x.1)=true:=by
   have:=zbs (pos:=pos) (hs env)
   rw [List.any_eq_false] at this
   rw [List.all_eq_true]
   intro x hx
   simpa using this x hx
  unfold methodCallForm
  rw [h1]
  simp only [Bool.true_and,Bool.and_eq_true,decide_eq_true_eq]
  exact ⟨rfl,hn⟩
 ·rintro co s₁ ⟨ov,σ₁,⟨f,⟨a,C,dd,fs,rfl,hl,⟨N,mN,fa,of,fd,y,K,k1,rfl,k2,k3,k4,k5⟩,hno⟩,h₁⟩,t₁,hs₁,ro⟩ pl
  simp only [VRel] at ro;subst ro
  obtain ⟨mA,I,_,p8⟩:=InstR.inst (hs₁.objs _ _ (zad hl))
  obtain ⟨hp,hw⟩:=h₁ env A s₁ E pos (r.step t₁ hs₁)
  obtain ⟨nm,q,bs,sn,sub,col,dd',k0,k1',k2',k3',k5',hC⟩:=ClsQ.of (K.at_.keeps hs₁.keep)
  have key:wpAny c.M A (callWith pos (.ref fa) [.ref a] (backTo pos (starEach args env)) []) (Post c A σ s P) E s₁:=by
   refine zdk (c:=c) (zbs hp) (.inr (.inr (.inl ⟨fa,of,fd,rfl,k2,k4⟩))) (wpAny_mono hw ?_ fun z1 z2 x=>x)
   rintro cvs s₂ ⟨vs,σ₂,⟨_,h₂⟩,t₂,hs₂,rvs⟩
   refine ⟨hs₂.keep,?_⟩
   refine wpAny_mono (h₂ A s₂ E (.ref a::cvs) r.a hs₂ (by simp only [VRels];exact ⟨.ref a,cvs,rfl,by simp only [VRel],rvs⟩) ((r.e.step t₁).step t₂)) (fun z1 z2 q=>(q.step t₂).step t₁) fun z1 z2 x=>x
  obtain ⟨hh,g,dr,t,os⟩:=s₁
  exact method_of hC (K.at_.keeps hs₁.keep).ns K.ga K.gh k1 (hs₁.keep _ _ k2) k3 k5 I (p8 name hno) key
end Mine
end
section
namespace Mine
open PySem
noncomputable def VE:List Value:=[.type "ValueError",.type "Exception",.type "BaseException",.type "object"]
noncomputable def VN:String:="ValueError.__new__"
noncomputable def zvd:List Str:=["__init__","__getattribute__","__getattr__","__class__"]
inductive OwnTl (h:Heap):List Value->Prop
 | base:OwnTl h VE
 | own {A:Addr} {c0:Value} {dd:Option Addr} {cd:ClassData} {sl:Array (Option Value)} {mA:Str->Option Value} {tl:List Value} :
   h.get? A=some { cls:=c0,dict:=dd,data:=.cls cd,slots:=sl }->h.Ns cd.ns mA->(∀ n∈zvd,mA n=none)->OwnTl h tl->OwnTl h (.ref A::tl)
inductive z87 (h:Heap) (C:Addr) (bm:List Value):Prop
 | mk (nm:_) (q:_) (N:Addr) (bs:_) (hdct:_) (sn:_) (sub:_) (ab:_) (col:_) (dd:_) (k0:_) (k1:_) (k2:_) (k3:_) (k5:_) (mN:Str->Option Value):h.get? C=some (excClassObj nm q C N bs bm hdct sn sub ab col dd k0 k1 k2 k3 k5 VN)->h.Ns N mN->(∀ n∈zvd,mN n=none)->z87 h C bm
structure OwnE (h:Heap) (C:Addr) (bm:List Value):Prop where
 at_:z87 h C bm
 tl:OwnTl h bm
theorem OwnTl.keeps {h h':Heap} {tl:List Value} (T:OwnTl h tl) (hk:∀ b o,h.get? b=some o->h'.get? b=some o):OwnTl h' tl:=by
 induction T with
 | base=>exact .base
 | own hA hN hq _ ih=>exact .own (hk _ _ hA) (hN.keeps hk) hq ih
theorem OwnE.keeps {h h':Heap} {C:Addr} {bm:List Value} (x:OwnE h C bm) (hk:∀ b o,h.get? b=some o->h'.get? b=some o):OwnE h' C bm:=by
 obtain ⟨⟨nm,q,N,bs,hdct,sn,sub,ab,col,dd,k0,k1,k2,k3,k5,mN,h1,h2,h3⟩,tl⟩:=x
 exact ⟨⟨nm,q,N,bs,hdct,sn,sub,ab,col,dd,k0,k1,k2,k3,k5,mN,hk _ _ h1,h2.keeps hk,h3⟩,tl.keeps hk⟩
theorem OwnTl.tail {h:Heap} {tl:List Value} (T:OwnTl h tl):OwnTail h VE tl:=by
 induction T with
 | base=>exact .base
 | own hA hN hq _ ih=>exact .own hA hN (hq _ (.head _)) ih
theorem OwnTl.has {h:Heap} {tl:List Value} (T:OwnTl h tl) {X:String} (hb:VE.contains (.type X)=true):tl.contains (.type X)=true:=T.tail.hasType hb
section
variable {prog:Program} {w:World} {A:Around} {E:Value->Shared->Prop} {h:Heap} {g:Array GenState} {d:Drawn} {t:Nat} {os:OsState} {a:Addr} {o:Obj}
 {nm q:Str} {C N:Addr} {bs bm:List Value} {hdct:Bool} {sn:List Str} {sub:List Value} {ab:Bool} {col:Option Bool} {dd:Option Addr} {k0 k1 k2 k3 k5:Option Value} {mN:Str->Option Value}
theorem z1m {M:Model} {tl:List Value} {n:Str} {y:Option Value} {Q:Option Value->Shared->Prop} (hn:n∈zvd) (T:OwnTl h tl) (hrest:lookupAlong VE n=pure y) (hq:Q y ⟨h,g,d,t,os⟩):wpAny M A (lookupAlong tl n) Q E ⟨h,g,d,t,os⟩:=by
 induction T with
 | base=>rw [hrest];exact wpAny_pure hq
 | own hA hN hni _ ih=>
  rw [lookupAlong_cons]
  refine wpAny_bind (wpAny_classOwn_cls hA hN ?_)
  rw [hni n hn]
  exact ih
theorem zk2 {M:Model} {n:Str} {y:Option Value} {Q:Option Value->Shared->Prop} (hn:n∈zvd) (hC:h.get? C=some (excClassObj nm q C N bs bm hdct sn sub ab col dd k0 k1 k2 k3 k5 VN)) (hN:h.Ns N mN) (hmN:∀ n∈zvd,mN n=none) (T:OwnTl h bm)
  (hB:typeLookup (.type "ValueError") n=pure y) (hq:Q y ⟨h,g,d,t,os⟩):wpAny M A (typeLookup (.ref C) n) Q E ⟨h,g,d,t,os⟩:=by
 have hrest:lookupAlong VE n=pure y:=by rw [typeLookup_eq,F.excBase_ValueError.mroIs] at hB;exact hB
 rw [typeLookup_eq]
 refine wpAny_bind (wpAny_mroOf_exc hC ?_)
 rw [lookupAlong_cons]
 refine wpAny_bind (wpAny_classOwn_exc hC hN ?_)
 rw [hmN n hn]
 exact z1m hn T hrest hq
theorem ve_ga:Slot "ValueError" "__getattribute__" "BaseException.__getattribute__":=F.excAttr_ValueError.ga
theorem z0z:typeLookup (.type "ValueError") "__getattr__"=pure none:=by rw [typeLookup_type,builtinLookup_eq_fast];kernel_rfl
theorem zw6:typeLookup (.type "ValueError") "__class__"=pure (some (.builtin "object.__class__")):=by rw [typeLookup_type,builtinLookup_eq_fast];kernel_rfl
theorem z12 {R:Result->Shared->Prop} (hC:h.get? C=some (excClassObj nm q C N bs bm hdct sn sub ab col dd k0 k1 k2 k3 k5 VN)) (T:OwnTl h bm) (hx:h.get? a=some o) (hc:o.cls=.ref C) (hq:R (.ok (.ret (.ref C))) ⟨h,g,d,t,os⟩) :
  codeAny (model prog w) A (.call (.builtin "getset_descriptor.__get__") ⟨[.builtin "object.__class__",.ref a,.ref C],[]⟩) R ⟨h,g,d,t,os⟩:=by
 have hT5:(⟨h,g,d,t,os⟩:Shared).TypeIs (.builtin "object.__class__") "getset_descriptor":=F.typeOf_object_class
 have hcB:(Value.ref C::bm).contains (.type (".".intercalate ("object.__class__".cutAt '.').dropLast))=true:=by
  rw [F.owner_object_class,List.contains_cons,T.has (X:="object") (by decide)];rfl
 refine codeAny_call_builtin F.slot_gs_get.plain F.entry_gs_get (F.slot_gs_get.check _ _ _ _ _ _ _ _ hT5 (F.args_gs_get _ _ _) ?_)
 repeat (any_goals (first | assumption | (with_reducible refine wpAny_loadPart_at hx ?_;rw [hc]) | (with_reducible refine wpAny_isSubtype_exc hC ?_;rw [hcB]) | wp_step))
 refine ⟨Code.quiet_builtin _ (by decide +kernel),codeAny_builtin F.entry_object_class ?_⟩
 repeat (any_goals (first | assumption | (with_reducible refine wpAny_loadPart_at hx ?_;rw [hc]) | wp_step))
theorem zyc {M:Model} {nameV:Value} {Q:Unit->Shared->Prop} (hC:h.get? C=some (excClassObj nm q C N bs bm hdct sn sub ab col dd k0 k1 k2 k3 k5 VN)) (T:OwnTl h bm) (hx:h.get? a=some o) (hc:o.cls=.ref C) (hq:Q () ⟨h,g,d,t,os⟩) :
  wpAny M A (checkBuiltinCall "BaseException.__getattribute__" ⟨[.ref a,nameV],[]⟩) Q E ⟨h,g,d,t,os⟩:=by
 have hk:builtinKind "BaseException.__getattribute__"=some .slot:=by decide +kernel
 have hsplit:splitId "BaseException.__getattribute__"=some ("BaseException","__getattribute__"):=by decide +kernel
 have hcB:(Value.ref C::bm).contains (.type "BaseException")=true:=by rw [List.contains_cons,T.has (by decide)];rfl
 have ha:=F.args_bexc_ga (.ref a) nameV
 simp only [checkBuiltinCall,hk,hsplit]
 refine wpAny_bind ?_
 unfold isInstance
 repeat (first | (with_reducible refine wpAny_loadPart_at hx ?_;rw [hc]) | (with_reducible refine wpAny_isSubtype_exc hC ?_;rw [hcB]) | wp_step)
 exact hq
theorem zvs {tk:Tok} {Q:Fin->Shared->Prop} (hC:h.get? C=some (excClassObj nm q C N bs bm hdct sn sub ab col dd k0 k1 k2 k3 k5 VN)) (hN:h.Ns N mN) (hmN:∀ n∈zvd,mN n=none) (T:OwnTl h bm) (hx:h.get? a=some o) (hc:o.cls=.ref C) (hq:Q (.done (.ret (.ref C))) ⟨h,g,d,t,os⟩) :
  wpAny (model prog w) A (Builtin.«object.__getattribute__» ⟨[.ref a,.str "__class__" tk],[]⟩) Q E ⟨h,g,d,t,os⟩:=by
 have hT5:(⟨h,g,d,t,os⟩:Shared).TypeIs (.builtin "object.__class__") "getset_descriptor":=F.typeOf_object_class
 have f5:=F.typeOf_object_class
 have f6:=F.slot_gs_get.lookup
 have f7:=F.slot_gs_set.lookup
 have hm:("__class__":Str)∈zvd:=.tail _ (.tail _ (.tail _ (.head _)))
 repeat (any_goals (first | assumption | (with_reducible refine wpAny_loadPart_at hx ?_;rw [hc]) | with_reducible refine zk2 hm hC hN hmN T zw6 ?_ | wp_step))
 refine z12 hC T hx hc ?_
 repeat (any_goals (first | assumption | wp_step))
theorem z47 {tk:Tok} {fill expr:Bool} {Q:Value->Shared->Prop} (hC:h.get? C=some (excClassObj nm q C N bs bm hdct sn sub ab col dd k0 k1 k2 k3 k5 VN)) (hN:h.Ns N mN) (hmN:∀ n∈zvd,mN n=none) (T:OwnTl h bm) (hx:h.get? a=some o) (hc:o.cls=.ref C) (hq:Q (.ref C) ⟨h,g,d,t,os⟩) :
  wpAny (model prog w) A (getAttrBy (.ref a) (.str "__class__" tk) fill expr) Q E ⟨h,g,d,t,os⟩:=by
 have f3:=ve_ga.bind (.ref a)
 have hx0:(expr && onTheHeap (Value.builtin "BaseException.__getattribute__"))=false:=by cases expr <;> rfl
 have hx2:(Value.builtin "BaseException.__getattribute__" == Value.builtin "object.__getattribute__")=false:=by decide +kernel
 have hx1:(onTheHeap (Value.ref C) && Value.builtin "BaseException.__getattribute__" == Value.builtin "object.__getattribute__")=false:=by rw [hx2];rfl
 have hm1:("__getattribute__":Str)∈zvd:=.tail _ (.head _)
 have hm2:("__getattr__":Str)∈zvd:=.tail _ (.tail _ (.head _))
 repeat (any_goals (first | assumption | (with_reducible refine wpAny_loadPart_at hx ?_;rw [hc]) | with_reducible refine zk2 hm1 hC hN hmN T ve_ga.lookup ?_ | with_reducible refine zk2 hm2 hC hN hmN T z0z ?_ | wp_step))
 refine codeAny_call_builtin ve_ga.plain F.entry_bexc_ga (zyc hC T hx hc (zvs hC hN hmN T hx hc ?_))
 repeat (any_goals (first | assumption | wp_step))
theorem zyr {Q:Option Value->Shared->Prop} (hC:h.get? C=some (excClassObj nm q C N bs bm hdct sn sub ab col dd k0 k1 k2 k3 k5 VN)) (hN:h.Ns N mN) (hmN:∀ n∈zvd,mN n=none) (T:OwnTl h bm) (hx:h.get? a=some o) (hc:o.cls=.ref C) (hq:Q (some (.ref C)) ⟨h,g,d,t+1,os⟩) :
  wpAny (model prog w) A (getAttr? (.ref a) "__class__") Q E ⟨h,g,d,t,os⟩:=by
 unfold getAttr? getAttrBy?
 repeat (any_goals (first | assumption | with_reducible apply z47 hC hN hmN T hx hc | wp_step))
end
end Mine
end
section
namespace Mine
open PySem
section
variable {prog:Program} {w:World} {A:Around} {E:Value->Shared->Prop} {h:Heap} {g:Array GenState} {d:Drawn} {t:Nat} {os:OsState} {a:Addr} {o:Obj}
 {nm q:Str} {C N:Addr} {bs bm:List Value} {hdct:Bool} {sn:List Str} {sub:List Value} {ab:Bool} {col:Option Bool} {dd:Option Addr} {k0 k1 k2 k3 k5:Option Value} {mN:Str->Option Value}
inductive IsCls (h:Heap):Value->Prop
 | own {D:Addr} {bm:List Value}:OwnE h D bm->IsCls h (.ref D)
 | ve:IsCls h (.type "ValueError")
theorem IsCls.keeps {h h':Heap} {cv:Value} (x:IsCls h cv) (hk:∀ b o,h.get? b=some o->h'.get? b=some o):IsCls h' cv:=by
 cases x with
 | own x=>exact .own (x.keeps hk)
 | ve=>exact .ve
theorem zpw {M:Model} {cv:Value} {Q:Value->Shared->Prop} (x:IsCls h cv) (hq:Q (.type "type") ⟨h,g,d,t,os⟩):wpAny M A (typeOf cv) Q E ⟨h,g,d,t,os⟩:=by
 cases x with
 | own x=>
  obtain ⟨nm,q,N,bs,hdct,sn,sub,ab,col,dd,k0,k1,k2,k3,k5,mN,hD,_⟩:=x.at_
  exact wpAny_bind (wpAny_loadPart_at hD (wpAny_pure hq))
 | ve=>exact wpAny_of_eq (a:=.type "type") (by kernel_rfl) hq
theorem zu6 {M:Model} {cv:Value} {Q:Bool->Shared->Prop} (x:IsCls h cv) (hq:Q true ⟨h,g,d,t,os⟩):wpAny M A (isType cv) Q E ⟨h,g,d,t,os⟩:=by
 cases x with
 | own x=>
  obtain ⟨nm,q,N,bs,hdct,sn,sub,ab,col,dd,k0,k1,k2,k3,k5,mN,hD,_⟩:=x.at_
  unfold isType loadHead
  exact wpAny_bind (wpAny_loadPart_at hD (wpAny_pure hq))
 | ve=>exact wpAny_of_eq (a:=true) rfl hq
theorem zse {cv:Value} {dep:Int} {tk:Tok} {Q:Fin->Shared->Prop} (x:OwnE h C bm) (hx:h.get? a=some o) (hc:o.cls=.ref C) (k:IsCls h cv)
  (hq:∀ t',Q (.done (.ret (.bool ((Value.ref C::bm).contains cv)))) ⟨h,g,d,t',os⟩):wpAny (model prog w) A (Builtin.«isinstance.nested» ⟨[.ref a,cv,.int dep tk],[]⟩) Q E ⟨h,g,d,t,os⟩:=by
 obtain ⟨nm,q,N,bs,hdct,sn,sub,ab,col,dd,k0,k1,k2,k3,k5,mN,hC,hN,hmN⟩:=x.at_
 have T:=x.tl
 have kC:IsCls h (.ref C):=.own x
 cases he:(Value.ref C == cv) with
 | true=>
  rw [List.contains_cons,show (cv == Value.ref C)=true from by rw [beq_iff_eq] at he ⊢;exact he.symm] at hq
  have hq':=hq t
  repeat (any_goals (first | assumption | (with_reducible refine wpAny_loadPart_at hx ?_;rw [hc]) | wp_step))
 | false=>
  have he2:(Value.ref C::bm).contains cv=bm.contains cv:=by
   rw [List.contains_cons,show (cv == Value.ref C)=false from by rw [beq_eq_false_iff_ne] at he ⊢;exact fun q=>he q.symm];rfl
  cases hb:bm.contains cv with
  | true=>
   rw [he2,hb] at hq
   have hq':=hq t
   repeat (any_goals (first | assumption | (with_reducible refine wpAny_loadPart_at hx ?_;rw [hc]) | with_reducible apply zpw k | with_reducible apply zu6 k | (with_reducible refine wpAny_isSubtype_exc hC ?_;rw [he2,hb]) | wp_step))
  | false=>
   rw [he2,hb] at hq
   have hq':=hq (t+1)
   repeat (any_goals (first | assumption | (with_reducible refine wpAny_loadPart_at hx ?_;rw [hc]) | with_reducible apply zpw k | with_reducible apply zu6 k | with_reducible apply zu6 kC | with_reducible apply zyr hC hN hmN T hx hc | (with_reducible refine wpAny_isSubtype_exc hC ?_;rw [he2,hb]) | wp_step))
end
end Mine
end
section
namespace Mine
open PySem
variable {c:Cx} {d:Nat} {sc:Scope} {m:zaf} {σ:Led} {P:V->Led->Prop} {X:XP} {K:Fl->zaf->Led->Prop}
def Asked (e C:Addr) (bm:List Value) (cvs:List Value) (s:Shared):Prop:=OwnE s.heap C bm/\(∃ o,s.heap.get? e=some o/\o.cls=.ref C)/\∀ cv∈cvs,IsCls s.heap cv
theorem z17 {e C:Addr} {bm cvs:List Value} {cv:Value} (h:cv∈cvs):Answers (Asked e C bm cvs) (.ref e) cv ((Value.ref C::bm).contains cv):=fun dep tk prog w A R s hs=>by
 obtain ⟨⟨x,⟨o,q,k⟩,hc⟩,hq⟩:=hs
 obtain ⟨hp,g,dr,t,os⟩:=s
 exact zse x q k (hc cv h) fun t'=>hq t'
section
variable {prog:Program} {w:World} {A:Around} {E:Value->Shared->Prop}
end
theorem Asked.of {A:Around} {s:Shared} {e C:Addr} {bm cvs:List Value} (st:St c A σ s.heap) (hl:σ.lookup e=some (.exc C)) (x:OwnE c.k.h0 C bm) (k:∀ cv∈cvs,IsCls c.k.h0 cv):Asked e C bm cvs s:=by
 obtain ⟨o,vs,q,k1,_⟩:=st.objs e _ (zad hl)
 exact ⟨x.keeps st.keep,⟨o,q,k1⟩,fun cv q=>(k cv q).keeps st.keep⟩
theorem zww {e C:Addr} {bm:List Value} {cv:Value} (hl:σ.lookup e=some (.exc C)) (x:OwnE c.k.h0 C bm) (k:IsCls c.k.h0 cv) (h:P (.bool ((Value.ref C::bm).contains cv)) σ):CallS c d (.builtin "isinstance") [.ref e,.raw cv] σ P X:=by
 intro A s E cs hA st rs _
 obtain ⟨y,z,rfl,r,r'⟩:=rs.un2
 simp only [VRel] at r r';subst r;rw [r']
 refine call_isinstance (S:=fun z1 R s=>Asked e C bm [cv] s/\∀ tk,R (.ok (.ret (.bool ((Value.ref C::bm).contains cv)))) { s with toks:=tk }) (fun prog w A R s hs=>isinstance_outer (z17 (.head _) 0 0 prog w A R s hs) (by intro q;cases q)) ⟨Asked.of st hl x fun cv q=>by rw [List.mem_singleton.mp q];exact k,fun tk=>?_⟩
 exact ⟨_,σ,h,.toks,st,by simp only [VRel]⟩
theorem zvm {M:Model} {A:Around} {E:Value->Shared->Prop} {s:Shared} {e C D:Addr} {bm bm':List Value} {o:Obj} {Q:Bool->Shared->Prop} (x:OwnE s.heap C bm) (y:OwnE s.heap D bm') (he:s.heap.get? e=some o) (hc:o.cls=.ref C)
  (hq:Q ((Value.ref C::bm).contains (.ref D)) s):wpAny M A (excMatches (.ref e) (.ref D)) Q E s:=by
 obtain ⟨h,g,dr,t,os⟩:=s
 obtain ⟨nm,q,N,bs,hdct,sn,sub,ab,col,dd,k0,k1,k2,k3,k5,mN,hC,_⟩:=x.at_
 obtain ⟨nm',q',N',bs',hdct',sn',sub',ab',col',dd',k0',k1',k2',k3',k5',mN',hD,_⟩:=y.at_
 have hcB:(Value.ref D::bm').contains (.type "BaseException")=true:=by rw [List.contains_cons,y.tl.has (by decide),Bool.or_true]
 have f:=tc_notTuple
 unfold excMatches
 generalize hb:(Value.ref C::bm).contains (.ref D)=bb at hq
 repeat (first | (with_reducible refine wpAny_loadPart_at he ?_;rw [hc]) | with_reducible refine wpAny_loadPart_at hD ?_ | (with_reducible refine wpAny_isSubtype_exc hD ?_;rw [hcB]) | (with_reducible refine wpAny_isSubtype_exc hC ?_;rw [hb]) | wp_step)
 cases bb <;> (wp_walk;exact hq)
end Mine
end
section
namespace Mine
open PySem
variable {c:Cx} {d:Nat} {sc:Scope} {m:zaf} {σ:Led} {P:V->Led->Prop} {X:XP} {K:Fl->zaf->Led->Prop}
structure Exc (k:Base) (x:Str) (C:Addr) (bm:List Value):Prop where
 mg:k.mg x=some (.ref C)
 own:OwnE k.h0 C bm
theorem z0j (hc:c.k.OK) {x:Str} {C:Addr} {bm:List Value} {pos:Pos} (hx:Exc c.k x C bm) (hk:sc.names.lookup x=some .globalImplicit) (h:P (.raw (.ref C)) σ):WE c d sc (.Name x pos) m σ P X:=
 zif hc hk hx.mg (fun z1 z2=>by simp only [VRel]) h
theorem zy0 (hc:c.k.OK) (hh:c.k.hd=true) {x:Str} {C:Addr} {bm:List Value} {args:List Expr} {np cpos pos:Pos} (hx:Exc c.k x C bm) (hk:sc.names.lookup x=some .globalImplicit) (hl:args.length<=1000)
  (h:WEs c d sc args m σ (fun z1 σ₁=>X (.ref C) σ₁) X):WS c d sc (.Raise (some (.Call (.Name x np) args [] cpos)) none pos) m σ K X:=by
 intro env A s E r
 obtain ⟨⟨nm,q,N,bs,hdct,sn,sub,ab,col,dd,k0,k1,k2,k3,k5,mN,hC,hN,hm⟩,T⟩:=hx.own
 refine wpAny_Raise_call_subT F.excBase_ValueError (nm:=nm) (q:=q) (C:=C) (N:=N) (bs:=bs) (bm:=bm) (hdct:=hdct) (sn:=sn) (sub:=sub) (ab:=ab) (col:=col) (dd:=dd) (k0:=k0) (k1:=k1) (k2:=k2) (k3:=k3) (k5:=k5) (mN:=mN) (T.has (by decide)) (r.a.handled hh) (zbs (h env A s E cpos r.re).1) (hm _ (.head _)) ?_
 refine wpAny_mono (z0j hc (P:=fun v σ'=>v=.raw (.ref C)/\σ'=σ) (pos:=np) hx hk ⟨rfl,rfl⟩ env A s E r.re) ?_ fun z1 z2 x=>x
 rintro f s₁ ⟨v,σ₁,⟨rfl,rfl⟩,t₁,st₁,rv⟩
 simp only [VRel] at rv;subst rv
 refine ⟨rfl,?_⟩
 obtain ⟨h1,h2⟩:=h env A s₁ E cpos (r.re.step t₁ st₁)
 refine zbz (zbs h1) (wpAny_mono h2 ?_ fun z1 z2 x=>x)
 rintro cvs s₂ ⟨vs,σ₂,⟨hlen,hX⟩,t₂,st₂,rs⟩
 refine ⟨rfl,?_,st₂.keep _ _ hC,hN.keeps st₂.keep,T.tail.keeps st₂.keep,fun h' e hm=>?_⟩
 ·show cvs.length<=sizeLine
  rw [rs.length,hlen,sizeLine_eq];exact Nat.le_trans hl (by decide)
 have hx:Ext s₂.heap h':=hm.keeps
 have t:=(t₁.trans t₂).trans (.ext (s':={ s₂ with heap:=h' }) hx rfl rfl)
 obtain ⟨tt,he,_⟩:=hm.there
 refine r.e e (.ref C) σ₂ _ hX t.wider (st₂.ext hx) (r.er.mono t.kept.wider t.grow.wider).nil ⟨?_,⟨C,rfl⟩,_,_,he,rfl,rfl,.inl rfl⟩
 cases q:s.heap.get? e with
 | none=>rfl
 | some o=>
  obtain ⟨o',q'⟩:=(t₁.trans t₂).there e o q
  rw [hm.new] at q';cases q'
end Mine
end
section
namespace Mine
open PySem
variable {c:Cx} {d:Nat} {sc:Scope} {m:zaf} {σ:Led} {P:V->Led->Prop} {X:XP} {K:Fl->zaf->Led->Prop} {h h' base:Heap} {A A':Around} {e C:Addr} {env:Env} {own:List Addr}
noncomputable def Cx.un (c:Cx):Cx:={ c with k:={ c.k with hd:=false } }
theorem orel_un {a:Addr} {o:O}:ORel c.un.k h own a o=ORel c.k h own a o:=by cases o <;> rfl
theorem St.un (hf:A'.frames=A.frames) (st:St c A σ h):St c.un A' σ h:=⟨st.keep,st.nodup,st.fresh,fun a o hm=>orel_un.mpr (st.objs a o hm),hf ▸ st.frames,st.prot,st.hid⟩
theorem St.reun (hf:A'.frames=A.frames) (st:St c.un A' σ h):St c A σ h:=⟨st.keep,st.nodup,st.fresh,fun a o hm=>orel_un.mp (st.objs a o hm),hf ▸ st.frames,st.prot,st.hid⟩
theorem EnvRel.un (er:EnvRel c own env m h):EnvRel c.un own env m h:=⟨er.ns,er.cell,er.lnot,er.cnot,er.apart⟩
theorem EnvRel.reun (er:EnvRel c.un own env m h):EnvRel c own env m h:=⟨er.ns,er.cell,er.lnot,er.cnot,er.apart⟩
def NoExc (σ:Led):Prop:=∀ a C,σ.lookup a≠some (.exc C)
theorem z1o {a:Addr} {o:O}:(zab σ).Nodup->(a,o)∈σ->σ.lookup a=some o:=by
 induction σ with
 | nil=>exact fun z1 h=>nomatch h
 | cons p r ih=>
  intro hn hm
  obtain ⟨_,h2,h3⟩:=List.nodup_append.mp hn
  rcases List.mem_cons.mp hm with e | e
  ·rw [← e];exact zai
  ·exact zam (fun z=>h3 p.1 (O.self _ _) a (mem_owned.mpr ⟨a,o,e,O.self _ _⟩) z.symm) (ih h2 e)
theorem ExcAt.notin (he:ExcAt e (.ref C) base h) (st:St c A σ h) (hp:NoExc σ):e∉zab σ:=fun hm=>by
 obtain ⟨oe,vs,q1,q2,q3,_⟩:=he.obj
 obtain ⟨a,o,hm,hb⟩:=mem_owned.mp hm
 have r:=st.objs a o hm
 cases o with
 | list ws=>
  obtain ⟨cs,⟨n,p⟩,_⟩:=r
  rw [← List.mem_singleton.mp hb,q1] at p;cases p;cases q3
 | dictI kvs=>
  obtain ⟨_,_,⟨o',es,ep,p,_,p2,_⟩,_⟩:=r
  rw [← List.mem_singleton.mp hb,q1] at p;cases p;rw [p2] at q3;cases q3
 | dictS kvs=>
  obtain ⟨_,_,⟨o',es,ep,p,_,p2,_⟩,_⟩:=r
  rw [← List.mem_singleton.mp hb,q1] at p;cases p;rw [p2] at q3;cases q3
 | inst C d fs=>
  obtain ⟨o',mA,p1,p2,p3,p4,p5,⟨od,es,ep,p6,p7,_⟩,_⟩:=r
  simp only [O.addrs,List.mem_cons,List.not_mem_nil,or_false] at hb
  rcases hb with z | z
  ·rw [← z,q1] at p1;cases p1;rw [p3] at q3;cases q3
  ·rw [← z,q1] at p6;cases p6;rw [p7] at q3;cases q3
 | exc C'=>exact hp _ C' (z1o st.nodup hm)
theorem ExcAt.unfrozen (he:ExcAt e (.ref C) base h) {o:Obj} (q:h.get? e=some o):¬ Frozen o/\¬ Obj.isDict o/\∀ v,o.data≠.cell v:=by
 obtain ⟨oe,vs,q1,q2,q3,_⟩:=he.obj
 rw [q1] at q;cases q
 refine ⟨fun f=>?_,fun k=>zca k q3,fun v k=>by rw [q3] at k;cases k⟩
 rcases f with ⟨xs,n,k⟩ | ⟨_,k⟩ | ⟨_,_,_,k⟩
 ·rw [q3] at k;cases k
 ·rw [q2] at k;cases k
 ·rw [q3] at k;cases k
theorem ExcAt.carries (he:ExcAt e (.ref C) base h):Carries (zah c σ) (zah c ((e,.exc C)::σ)) h h:=fun a o q ha f=>⟨q,fun hm=>by
 rcases List.mem_append.mp hm with k | k
 ·exact ha (List.mem_append_left _ k)
 ·rcases List.mem_cons.mp k with k | k
  ·subst k;exact (he.unfrozen q).1 f
  ·exact ha (List.mem_append_right _ k)⟩
theorem St.hold (st:St c A σ h) (he:ExcAt e (.ref C) base h) (hp:NoExc σ) (h0b:∀ b o,c.k.h0.get? b=some o->base.get? b≠none) (hH:∀ b∈c.H,base.get? b≠none):St c A ((e,.exc C)::σ) h:=by
 have hn:=he.notin st hp
 have car:=he.carries (c:=c) (σ:=σ)
 have h0:c.k.h0.get? e=none:=by
  cases q:c.k.h0.get? e with
  | none=>rfl
  | some o=>exact absurd he.new (h0b _ _ q)
 obtain ⟨l,hl,hf,hdd⟩:=st.frames
 refine ⟨st.keep,List.nodup_cons.mpr ⟨hn,st.nodup⟩,fun a ha=>?_,fun a o hm=>?_,⟨l,hl,hf,fun L hL=>⟨fun k=>?_,(hdd L hL).2⟩⟩,st.prot,fun b hb=>⟨fun k=>?_,(st.hid b hb).2⟩⟩
 ·rcases List.mem_cons.mp ha with k | k
  ·rw [k];exact h0
  ·exact st.fresh a k
 ·rcases List.mem_cons.mp hm with k | k
  ·cases k
   obtain ⟨oe,vs,q1,q2,q3,_⟩:=he.obj
   exact ⟨oe,vs,q1,q2,q3⟩
  ·have r:=st.objs a o k
   cases o with
   | list vs=>obtain ⟨cs,p,hl,r⟩:=r;exact ⟨cs,p,hl,r.carry car⟩
   | dictI _=>exact DictR.carry r (fun z1 q=>q) car
   | dictS _=>exact DictR.carry r (fun z1 q=>q) car
   | inst _ _ _=>exact InstR.carry r (fun z1 z2 z3 q=>q) car
   | exc C'=>exact r
 ·rcases List.mem_cons.mp k with k | k
  ·subst k
   obtain ⟨_,o,q,_⟩:=hf.mem hL
   exact (he.unfrozen q).2.1 ((hdd L hL).2.2 o q)
  ·exact (hdd L hL).1 k
 ·rcases List.mem_cons.mp k with k | k
  ·subst k;exact hH b hb he.new
  ·exact (st.hid b hb).1 k
theorem EnvRel.hold (er:EnvRel c (zah c σ) env m h) (he:ExcAt e (.ref C) base h):EnvRel c (zah c ((e,.exc C)::σ)) env m h:=by
 have car:=he.carries (c:=c) (σ:=σ)
 have no:∀ a o,h.get? a=some o->a∉zah c σ->(Obj.isDict o\/∃ v,o.data=.cell v)->a∉zah c ((e,.exc C)::σ):=fun a o q ha k hm=>by
  rcases List.mem_append.mp hm with r | r
  ·exact ha (List.mem_append_left _ r)
  ·rcases List.mem_cons.mp r with r | r
   ·subst r
    rcases k with k | ⟨v,k⟩
    ·exact (he.unfrozen q).2.1 k
    ·exact (he.unfrozen q).2.2 v k
   ·exact ha (List.mem_append_right _ r)
 obtain ⟨mc,hn,hm⟩:=er.ns
 refine ⟨⟨mc,hn,fun x v q k=>(hm x v q k).imp fun cv r=>⟨r.1,r.2.carry car⟩⟩,fun x v q k=>?_,⟨?_,er.lnot.2⟩,fun x a q=>?_,er.apart⟩
 ·obtain ⟨a,cv,r1,r2,r3⟩:=er.cell x v q k
  exact ⟨a,cv,r1,r2,r3.carry car⟩
 ·obtain ⟨o,es,ep,q,q2,_⟩:=id hn
  exact no _ o q er.lnot.1 (.inl ⟨es,ep,q2⟩)
 ·obtain ⟨r1,r2,r3,r4,v,r5⟩:=er.cnot x a q
  obtain ⟨o,q1,q2⟩:=id r5
  exact ⟨no a o q1 r1 (.inr ⟨v,q2⟩),r2,r3,r4,v,r5⟩
set_option tactic.hygienic true
theorem zmz {M:Model} {E:Value->Shared->Prop} {s:Shared} {cls:Value} {Q:Unit->Shared->Prop} (he:ExcAt e cls base s.heap) (hq:∀ h',(∀ b,h'.get? b=s.heap.get? b)->Q () { s with heap:=h' }):wpAny M A (setFlight (.ref e) none) Q E s:=by
 obtain ⟨_,_,oe,vs,ho,_,hd,h1⟩:=he
 unfold setFlight
 rcases h1 with h1 | ⟨T,oT,ts,h1,_,_,hT,_,hdT,h3⟩
 ·refine wpAny_bind (wpAny_field ho hd h1 ?_)
  rw [if_neg (by decide)]
  exact wpAny_pure (hq s.heap fun z1=>rfl)
 ·refine wpAny_bind (wpAny_field ho hd h1 ?_)
  rw [if_pos (show (Value.ref T != Value.none)=true from by simp)]
  refine wpAny_setField hT hdT (Array.getElem?_eq_some_iff.mp h3).1 (hq _ fun b=>?_)
  by_cases hb:b=T
  ·subst hb
   rw [Heap.get?_update_self _ hT (Obj.isFreed_of_fields (Obj.data_mapFields hdT _)),hT]
   obtain ⟨k1,k2,k3,k4⟩:=oT
   cases hdT
   obtain ⟨lt,h4⟩:=Array.getElem?_eq_some_iff.mp h3
   have:ts.setIfInBounds 3 ((none:Option Addr).elim Value.none fun f=>rawInt f)=ts:=by
    refine Array.ext (by simp) fun i h1 h2=>?_
    rw [Array.getElem_setIfInBounds]
    split
    ·rename_i q;subst q;exact h4.symm
    ·rfl
   show some (Obj.mk k1 k2 (.fields (ts.setIfInBounds 3 ((none:Option Addr).elim Value.none fun f=>rawInt f))) k4)=_
   rw [this]
  ·exact Heap.get?_update_other _ _ (Ne.symm hb)
end Mine
end
section
namespace Mine
open PySem
variable {c:Cx} {d:Nat} {sc:Scope} {m:zaf} {σ:Led} {P:V->Led->Prop} {X:XP} {K:Fl->zaf->Led->Prop} {h h' base:Heap} {A A':Around} {e C:Addr} {env:Env}
theorem zn1 {s:Shared} {E:Value->Shared->Prop} {x:Str} {v:V} {pos:Pos} (ok:zco env) (st:St c A σ s.heap) (er:EnvRel c (zah c σ) env ((x,v)::m) s.heap) (hk:env.kindOf x=some .local) :
  wpAny c.M A (unbindBehindTheSuite env x pos) (fun z1 s'=>(Step c.F (places env++zab σ) (places env++zab σ) s s'/\St c A σ s'.heap/\EnvRel c (zah c σ) env [] s'.heap)/\Carries (zah c σ) (zah c σ) s.heap s'.heap) E s:=by
 obtain ⟨mc,hn,hm⟩:=er.ns
 obtain ⟨cv,hv,_⟩:=hm x v (by rw [List.lookup_cons_self]) hk
 have hpl:(env.scope.kind == .class || (env.scope.kind == .module && env.locals != env.globals))=false:=by rw [ok.kind];rfl
 unfold unbindBehindTheSuite
 refine wpAny_onRaise (wpAny_unbindName_local hk hn hv hpl fun h' u hn' hs'=>?_)
 obtain ⟨oL,es,ep,hoL,hdL,_⟩:=id hn
 obtain ⟨oL',es',ep',hoL',hdL',_⟩:=id hn'
 have hq:=zch hdL
 have kb:But env.locals s.heap h':=fun b o hb e=>(hs'.2 b hb).trans e
 refine ⟨⟨.write (t:=s.toks) (by simp [places]) er.lnot.2.2 ⟨_,hoL'⟩ kb,st.write (fun q=>er.lnot.1 (List.mem_append_right _ q)) er.lnot.2.1 hoL hq kb hoL' (fun z1=>⟨_,_,hdL'⟩) (fun z1 vs e=>by rw [hdL'] at e;cases e),?_⟩,kb.carries hoL hq⟩
 refine ⟨⟨_,hn',fun y w hy z1=>by cases hy⟩,(fun y w hy z1=>by cases hy),er.lnot,fun y a ha=>?_,er.apart⟩
 obtain ⟨h1,h2,h3,h4,v',oc,hoc,hdc⟩:=er.cnot y a ha
 exact ⟨h1,h2,h3,h4,v',oc,kb a oc h2 hoc,hdc⟩
theorem Step.through {F W0 W W1 W':List Addr} {s0 s s5:Shared} (t0:Step F W0 W s0 s) (tt:Step F W1 W' s s5) (hn:s0.heap.get? e=none) (hW:∀ b∈W1,b=e\/b∈W):Step F W0 W' s0 s5:=by
 refine ⟨fun b o q hb=>?_,fun b o q=>(t0.there b o q).elim fun o' q'=>tt.there b o' q',fun b hb o q=>tt.prot b hb o (t0.prot b hb o q),fun b hb=>?_,tt.os.trans t0.os,tt.gens.trans t0.gens⟩
 ·obtain ⟨sl,r1,r2⟩:=t0.kept b o q hb
  obtain ⟨sl',r3,r4⟩:=tt.kept b _ r1 fun hm=>by
   rcases hW b hm with k | k
   ·rw [k,hn] at q;cases q
   ·exact t0.grow.notin hb q k
  exact ⟨sl',r3,fun k=>(r4 k).trans (r2 k)⟩
 ·rcases tt.grow b hb with k | k
  ·rcases hW b k with k | k
   ·exact .inr (k ▸ hn)
   ·exact t0.grow b k
  ·refine .inr ?_
   cases q:s0.heap.get? b with
   | none=>rfl
   | some o=>obtain ⟨o',q'⟩:=t0.there b o q;rw [k] at q';cases q'
theorem EnvRel.noted {own fr:List Addr} {cls:Value} (er:EnvRel c own env [] h) (n:Noted e cls base fr h h'):EnvRel c own env [] h':=by
 obtain ⟨mc,⟨o,es,ep,ho,hd,k1,k2⟩,_⟩:=er.ns
 obtain ⟨sl,r1,_⟩:=n.plain ho fun vs=>zca ⟨es,ep,hd⟩
 refine ⟨⟨mc,⟨_,es,ep,r1,hd,k1,k2⟩,fun z1 z2 q=>by cases q⟩,(fun z1 z2 q=>by cases q),er.lnot,fun x a q=>?_,er.apart⟩
 obtain ⟨r1,r2,r3,r4,v,oc,q1,q2⟩:=er.cnot x a q
 obtain ⟨sl,r5,_⟩:=n.plain q1 fun vs k=>by rw [q2] at k;cases k
 exact ⟨r1,r2,r3,r4,v,_,r5,q2⟩
def WH (c:Cx) (d:Nat) (sc:Scope) (hs:List ExceptHandler) (C:Addr) (σ0 σ:Led) (K:Fl->zaf->Led->Prop) (X:XP):Prop:=
 ∀ (env:Env) (A:Around) (s0 s:Shared) (E:Value->Shared->Prop) (e:Addr),RS c d sc [] σ X env A s E->Step c.F (places env++zab σ0) (places env++zab σ) s0 s->ExcAt e (.ref C) s0.heap s.heap->NoExc σ->(∀ b o,c.k.h0.get? b=some o->s0.heap.get? b≠none)->(∀ b∈c.H,s0.heap.get? b≠none)->
  wpAny c.M A (handleBy (.ref e) env hs) (PostS c A env σ0 s0 K) E s
theorem zyj {M:Model} {s:Shared} {E:Value->Shared->Prop} {mg:Str->Option Value} {x:Str} {pos:Pos} {cv:Value} {Q:Value->Shared->Prop} (ok:zco env) (hk:env.kindOf x=some .globalImplicit) (hn:s.heap.Ns mainGlobals mg) (hg:mg x=some cv) (hq:Q cv s):wpAny M A (eval (.Name x pos) env) Q E s:=
 Calls.Name_function_global ok.kind hk (Calls.loadGlobal_global (mg:=mg) (by rw [ok.globals];exact hn) hg hq) (nodebug ok hk)
section
variable {x:Str} {D:Addr} {bm bm':List Value} {p pos:Pos} {rest:List ExceptHandler} {σ0:Led} (hc:c.k.OK) (hx:Exc c.k x D bm') (hk:sc.names.lookup x=some .globalImplicit) (own:OwnE c.k.h0 C bm)
include hc hx hk own
theorem z8c {n:Str} {b₀:Stmt} {suite:List Stmt} (hyes:(Value.ref C::bm).contains (.ref D)=true) (hn:sc.names.lookup n=some .local) (h:∀ e,WSs c.un d sc (b₀::suite) [(n,.ref e)] ((e,.exc C)::σ) (fun fl z1 σ'=>K fl [] σ') NoX) :
  WH c d sc (.ExceptHandler (some (.Name x p)) (some n) (b₀::suite) pos::rest) C σ0 σ K X:=by
 intro env A s0 s E e r ts he hp h0b hH
 have hkn:env.kindOf n=some .local:=by unfold Env.kindOf;rw [r.sc];exact hn
 obtain ⟨oe,vs,q1,q2,q3,_⟩:=id he.obj
 refine wpAny_handleBy_cons (codeAny_handlers_test (zyj r.ok (by unfold Env.kindOf;rw [r.sc];exact hk) (hc.g.keeps r.st.keep) hx.mg (zvm (own.keeps r.st.keep) (hx.own.keeps r.st.keep) q1 q2 ?_))) (by intro q;cases q)
 rw [hyes]
 refine codeAny_handlers_suite_as (zmz he fun h' hs=>?_)
 have ext:Ext s.heap h':=fun b o q=>(hs b).trans q
 have hn:=he.notin r.st hp
 have st1:=St.un (A:=A) (A':=A.mark (some (.ref e))) rfl ((r.st.hold he hp h0b hH).ext ext)
 have er1:=((r.er.hold he).mono ext.kept .refl).un
 refine wpAny_mono (zcp (c:=c.un) (x:=n) (v:=.ref e) (s:={ s with heap:=h' }) r.ok st1 er1 (by simp only [VRel]) (.inl hkn)) ?_ fun z1 z2 x=>x
 rintro _ s₂ ⟨⟨t2,st2,er2⟩,_⟩
 refine wpAny_mono (h e env (A.mark (some (.ref e))) s₂ _ ⟨r.sc,r.ok,r.fr,⟨(fun k=>by cases k),r.a.depth,r.a.units,r.a.le⟩,st2,er2,.nox⟩) ?_ fun z1 z2 x=>x
 rintro f s₃ ⟨fl,m',σ',hK,t3,st3,er3,rf⟩
 refine wpAny_bind (wpAny_bindName (wpAny_mono (zcp (x:=n) (v:=.none) r.ok (St.reun (A:=A) (A':=A.mark (some (.ref e))) rfl st3) er3.reun (by simp only [VRel]) (.inl hkn)) ?_ fun z1 z2 x=>x))
 rintro _ s₄ ⟨⟨t4,st4,er4⟩,L,h4,tk4,e4,kb4,kd4⟩
 refine wpAny_mono (zn1 r.ok st4 er4 hkn) ?_ fun z1 z2 x=>x
 rintro _ s₅ ⟨⟨t5,st5,er5⟩,car5⟩
 have tt:Step c.F (places env++zab ((e,.exc C)::σ)) (places env++zab σ') s s₅:=((((Step.ext ext rfl rfl:Step c.F _ _ s { s with heap:=h' }).trans t2).trans t3).trans t4).trans t5
 refine ⟨fl,[],σ',hK,ts.through tt he.new fun b hb=>?_,st5,er5,?_⟩
 ·rcases List.mem_append.mp hb with q | q
  ·exact .inr (List.mem_append_left _ q)
  ·rcases List.mem_cons.mp q with q | q
   ·exact .inl q
   ·exact .inr (List.mem_append_right _ q)
 ·cases fl with
  | ret v=>
   obtain ⟨cv,rfl,rv⟩:=rf
   exact ⟨cv,rfl,Step.vp er4 t5 (Step.vp er3.reun t4 rv)⟩
  | next=>exact rf
  | brk=>exact rf
  | cont=>exact rf
end
theorem z5g {body:List Stmt} {h₀:ExceptHandler} {hs:List ExceptHandler} {pos:Pos} (X':XP) (hb:WSs c d sc body m σ K X') (hh:∀ cls σ',X' cls σ'->∃ C,cls=.ref C/\NoExc σ'/\WH c d sc (h₀::hs) C σ σ' K X):WS c d sc (.Try body (h₀::hs) [] [] pos) m σ K X:=by
 intro env A s E r
 refine wpAny_Try_except (wpAny_mono (hb env A s _ ⟨r.sc,r.ok,r.fr,r.a,r.st,r.er,fun e cls σ' s' hx t st er he=>?_⟩) ?_ fun z1 z2 x=>x)
 ·obtain ⟨C,rfl,hp,hw⟩:=hh cls σ' hx
  obtain ⟨outer,hfr⟩:=r.fr
  obtain ⟨l',hl',hf',_⟩:=id st.frames
  have:l'=env::outer:=by rw [hfr] at hl';exact (Option.some.inj hl').symm
  subst this
  obtain ⟨L,_,hL,_⟩:=id hf'.2.1
  refine zum (base:=s.heap) hfr hf' hL he (fun b o q=>t.there b o q) fun h' n=>?_
  have h0b:∀ b o,c.k.h0.get? b=some o->s.heap.get? b≠none:=fun b o q k=>by rw [r.st.keep b o q] at k;cases k
  have t':=t.noted st hfr n
  exact hw env A s { s' with heap:=h' } E e ⟨r.sc,r.ok,r.fr,r.a,st.noted hfr n h0b,er.noted n,r.e.step t'⟩ t' n.exc hp h0b fun b q k=>by
   obtain ⟨_,o,q⟩:=r.st.hid b q;rw [q] at k;cases k
 ·rintro f s₁ x
  cases f with
  | next=>exact wpAny_execs_nil x
  | brk=>exact x
  | cont=>exact x
  | ret v=>exact x
end Mine
end
section
namespace Mine
namespace Tim
open PySem PyProof.Rows
variable {prog:Program} {w:World} {A:Around} {E:Value->Shared->Prop} {s:Shared} {κ:SortKind} {Lt:Keyed->Keyed->Prop} {a₀:Array Keyed}
def Ask (prog:Program) (w:World) (A:Around) (s:Shared) (κ:SortKind) (Lt:Keyed->Keyed->Prop) (a₀:Array Keyed):Prop:=
 ∀ x∈a₀.toList,∀ y∈a₀.toList,∀ (E:Value->Shared->Prop) (Q:Bool->Shared->Prop),(∀ b,(b=true->Lt x y)->Q b s)->wpAny (model prog w) A (keyLt' κ x.1 y.1) Q E s
theorem zpu (hC:Ask prog w A s κ Lt a₀) {st:SortSt} {x y:Keyed} {Q:Option Bool->SortSt->Prop} (hk:kindOf st=κ) (hx:x∈a₀.toList) (hy:y∈a₀.toList) (h:∀ b,(b=true->Lt x y)->Q (some b) st) :
  wpS (model prog w) A E s (lt' x y) Q st:=by
 rw [lt'_eq]
 refine wpS_bind (wpS_get ?_)
 rw [hk]
 exact wpS_bind (wpS_lift (wpAny_attempt (hC x hx y hy _ _ fun b hb=>⟨rfl,wpS_pure (h b hb)⟩)))
theorem zaw {M:Model} {st:SortSt} {arr:Array Keyed} {i:Nat} {p:Keyed} {Q:Keyed->SortSt->Prop} (h:arr[i]?=some p) (hq:Q p st):wpS M A E s (elem' arr i) Q st:=by
 rw [elem'_eq,h];exact wpS_pure hq
theorem za0 {M:Model} {σ α:Type} {p:Prop} [Decidable p] {x y:StateT σ Sem α} {Q:α->σ->Prop} {st:σ} (h:p) (k:wpS M A E s x Q st):wpS M A E s (if p then x else y) Q st:=by rw [if_pos h];exact k
theorem zav {M:Model} {σ α:Type} {p:Prop} [Decidable p] {x y:StateT σ Sem α} {Q:α->σ->Prop} {st:σ} (h:¬ p) (k:wpS M A E s y Q st):wpS M A E s (if p then x else y) Q st:=by rw [if_neg h];exact k
theorem zke {M:Model} {σ α:Type} {x y:StateT σ Sem α} {Q:α->σ->Prop} {st:σ} (b:Bool) (h1:wpS M A E s x Q st) (h2:wpS M A E s y Q st):wpS M A E s (if b=true then x else y) Q st:=by
 cases b with
 | true=>exact za0 rfl h1
 | false=>exact zav Bool.false_ne_true h2
structure TB (κ:SortKind) (a₀:Array Keyed) (st:SortSt):Prop where
 perm:(arrOf st).Perm a₀
 kind:kindOf st=κ
 failed:failedOf st=none
theorem TB.size {st:SortSt} (h:TB κ a₀ st):(arrOf st).size=a₀.size:=h.perm.size_eq
theorem TB.mem {st:SortSt} (h:TB κ a₀ st) {p:Keyed}:p∈(arrOf st).toList ↔ p∈a₀.toList:=(Array.perm_iff_toList_perm.mp h.perm).mem_iff
theorem TB.at {st:SortSt} (h:TB κ a₀ st) {i:Nat} (hi:i<a₀.size):∃ p,(arrOf st)[i]?=some p/\p∈a₀.toList:=by
 have hi':i<(arrOf st).size:=by rw [h.size];exact hi
 have e:(arrOf st)[i]?=some (arrOf st)[i]:=getElem?_pos _ i hi'
 exact ⟨_,e,h.mem.mp (by simp)⟩
structure Nx (κ:SortKind) (a₀:Array Keyed) (st st':SortSt):Prop where
 tb:TB κ a₀ st'
 pend:pendingOf st'=pendingOf st
theorem Nx.refl {st:SortSt} (h:TB κ a₀ st):Nx κ a₀ st st:=⟨h,rfl⟩
theorem Nx.setArr {st st':SortSt} (h:Nx κ a₀ st st') {xs:Array Keyed} (hp:xs.Perm (arrOf st')):Nx κ a₀ st (setArr st' xs):=⟨⟨hp.trans h.tb.perm,h.tb.kind,h.tb.failed⟩,h.pend⟩
theorem ze9 (hC:Ask prog w A s κ Lt a₀) {st:SortSt} {i j:Nat} {Q:Option Bool->SortSt->Prop} (hB:TB κ a₀ st) (hi:i<a₀.size) (hj:j<a₀.size)
  (h:∀ b,(b=true->∀ p q,(arrOf st)[i]?=some p->(arrOf st)[j]?=some q->Lt p q)->Q (some b) st):wpS (model prog w) A E s (ltAt' i j) Q st:=by
 obtain ⟨p,e1,m1⟩:=hB.at hi
 obtain ⟨q,e2,m2⟩:=hB.at hj
 rw [ltAt'_eq]
 exact wpS_bind (wpS_get (wpS_bind (zaw e1 (wpS_bind (zaw e2 (zpu hC hB.kind m1 m2 fun b hb=>h b fun hb' p q g1 g2=>Option.some.inj (e1.symm.trans g1) ▸ Option.some.inj (e2.symm.trans g2) ▸ hb hb'))))))
theorem TB.out {st:SortSt} (h:TB κ a₀ st) {i j:Nat} (hi:i<a₀.size) (hj:j<a₀.size) {c:Prop} (h1:∀ p q,(arrOf st)[i]?=some p->(arrOf st)[j]?=some q->Lt p q) (h2:∀ p q,(arrOf st)[i]?=some p->(arrOf st)[j]?=some q->¬ Lt p q):c:=by
 obtain ⟨p,e1,_⟩:=h.at hi
 obtain ⟨q,e2,_⟩:=h.at hj
 exact absurd (h1 p q e1 e2) (h2 p q e1 e2)
def Ris (Lt:Keyed->Keyed->Prop) (xs:Array Keyed) (lo n:Nat):Prop:=∀ x,1<=x->x<n->∀ p q,xs[lo+x]?=some p->xs[lo+x - 1]?=some q->¬ Lt p q
theorem zlx (hC:Ask prog w A s κ Lt a₀) {st:SortSt} {lo nrem:Nat} {Q:Option Nat->SortSt->Prop} (hB:TB κ a₀ st) (hn:lo+nrem<=a₀.size) (h1:1<=nrem)
  (h:∀ m st',Nx κ a₀ st st'->1<=m->m<=nrem->(Ris Lt (arrOf st) lo nrem->m=nrem/\st'=st)->Q (some m) st'):wpS (model prog w) A E s (countRun' lo nrem) Q st:=by
 have B:∀ {x},x<nrem->lo+x<a₀.size:=fun h=>Nat.lt_of_lt_of_le (Nat.add_lt_add_left h lo) hn
 have B1:∀ {x},x<nrem->lo+x - 1<a₀.size:=fun h=>Nat.lt_of_le_of_lt (Nat.sub_le _ _) (B h)
 have B0:∀ {x},x<=nrem->lo+x - 1<a₀.size:=fun h=>by (exact Ar.l04 (.lt (.s (.a (.v 0) (.v 1)) (.k 1)) (.v 2)) [(.le (.a (.v 0) (.v 3)) (.v 2)),(.le (.k 1) (.v 3)),(.le (.v 1) (.v 3))] (by kernel_rfl) hn h1 h)
 rw [countRun'_eq]
 refine wpS_bind (wpS_mono (wpS_forRange (I:=fun x c st'=>st'=st/\c=(none,x)) (Q:=fun c st'=>st'=st/\∃ n,c=(none,n)/\1<=n/\n<=nrem/\(Ris Lt (arrOf st) lo nrem->n=nrem)) ?step ?fin ?init) ?post)
 case init=>exact ⟨rfl,rfl⟩
 case fin=>
  rintro c st' ⟨rfl,rfl⟩
  exact ⟨rfl,_,rfl,Nat.le_max_left _ _,Nat.max_le.mpr ⟨h1,Nat.le_refl _⟩,fun z1=>Nat.max_eq_right h1⟩
 case step=>
  rintro x c st' hx hxn ⟨rfl,rfl⟩
  dsimp only
  refine wpS_bind (ze9 hC hB (B hxn) (B1 hxn) fun b hb=>?_)
  cases b with
  | true=>exact za0 rfl (wpS_pure ⟨rfl,x,rfl,hx,Nat.le_of_lt hxn,fun r=>hB.out (B hxn) (B1 hxn) (hb rfl) (r x hx hxn)⟩)
  | false=>exact zav Bool.false_ne_true (wpS_pure ⟨rfl,rfl⟩)
 case post=>
  rintro c st' ⟨rfl,n0,rfl,hn1,hn2,hR⟩
  extract_lets -underBinder -merge +onlyGivenNames cr n
  have hcr:cr=none:=rfl
  have hn':n=n0:=rfl
  clear_value cr n
  subst hcr;subst hn'
  dsimp -zeta -zetaHave -zetaUnused only
  by_cases hnn:n=nrem
  ·refine za0 (by simpa using hnn) ?_
   exact wpS_pure (h n st' (.refl hB) hn1 hn2 fun z1=>⟨hnn,rfl⟩)
  ·refine zav (by simpa using hnn) ?_
   have no:∀ {c:Prop},Ris Lt (arrOf st') lo nrem->c:=fun r=>absurd (hR r) hnn
   extract_lets -underBinder -merge +onlyGivenNames jp
   have H1:∀ u st2,Nx κ a₀ st' st2->wpS (model prog w) A E s (jp u) Q st2:=by
    intro u st2 hN
    refine wpS_bind (wpS_lift (wpAny_rule ⟨rfl,?_⟩))
    refine wpS_bind (wpS_mono (wpS_forRange (I:=fun x c st3=>∃ neq,c=(none,x,neq)/\Nx κ a₀ st' st3)
     (Q:=fun c st3=>∃ m neq,c=(none,m,neq)/\1<=m/\m<=nrem/\Nx κ a₀ st' st3) ?_ ?_ ?_) ?_)
    ·rintro x c st3 hx hxn ⟨neq,rfl,hN3⟩
     dsimp only
     refine wpS_bind (ze9 hC hN3.tb (B hxn) (B1 hxn) fun b z1=>?_)
     refine zke b ?_ ?_
     ·by_cases hneq:neq > 0
      ·refine za0 hneq ?_
       exact wpS_bind (wpS_reverse (wpS_pure ⟨0,rfl,hN3.setArr (mirror_perm _ _ _ _)⟩))
      ·refine zav hneq ?_
       exact wpS_pure ⟨0,rfl,hN3⟩
     ·refine wpS_bind (ze9 hC hN3.tb (B1 hxn) (B hxn) fun b z1=>?_)
      cases b with
      | true=>
       simp only [if_true]
       exact wpS_pure ⟨x,neq,rfl,Nat.le_trans (Nat.le_add_left 1 n) hx,Nat.le_of_lt hxn,hN3⟩
      | false=>
       simp only [Bool.false_eq_true,if_false]
       exact wpS_pure ⟨neq+1,rfl,hN3⟩
    ·rintro c st3 ⟨neq,rfl,hN3⟩
     exact ⟨_,neq,rfl,Nat.le_trans h1 (Nat.le_max_right _ _),Nat.max_le.mpr ⟨Nat.lt_of_le_of_ne hn2 hnn,Nat.le_refl _⟩,hN3⟩
    ·exact ⟨0,rfl,hN⟩
    ·rintro c st3 ⟨m,neq,rfl,hm1,hm2,hN3⟩
     extract_lets -underBinder -merge +onlyGivenNames cr u2 m' neq'
     have hcr:cr=none:=rfl
     have hm':m'=m:=rfl
     have hneq':neq'=neq:=rfl
     clear_value cr m' neq'
     subst hcr;subst hm';subst hneq'
     dsimp -zeta -zetaHave -zetaUnused only
     extract_lets -underBinder -merge +onlyGivenNames jp2
     have H2:∀ u st5,Nx κ a₀ st' st5->wpS (model prog w) A E s (jp2 u) Q st5:=by
      intro u st5 hN5
      refine wpS_bind (wpS_reverse ?_)
      refine wpS_bind (wpS_mono (wpS_forRange (I:=fun x c st6=>c=(none,x)/\Nx κ a₀ st' st6)
       (Q:=fun c st6=>∃ k,c=(none,k)/\1<=k/\k<=nrem/\Nx κ a₀ st' st6) ?_ ?_ ?_) ?_)
      ·rintro x c st6 hx hxn ⟨rfl,hN7⟩
       dsimp only
       refine wpS_bind (ze9 hC hN7.tb (B hxn) (B1 hxn) fun b z1=>?_)
       refine zke b ?_ ?_
       ·exact wpS_pure ⟨x,rfl,Nat.le_trans hm1 hx,Nat.le_of_lt hxn,hN7⟩
       ·exact wpS_pure ⟨rfl,hN7⟩
      ·rintro c st6 ⟨rfl,hN7⟩
       exact ⟨_,rfl,Nat.le_trans h1 (Nat.le_max_right _ _),Nat.max_le.mpr ⟨hm2,Nat.le_refl _⟩,hN7⟩
      ·exact ⟨rfl,hN5.setArr (mirror_perm _ _ _ _)⟩
      ·rintro c st6 ⟨k,rfl,hk1,hk2,hN7⟩
       exact wpS_pure (h k st6 hN7 hk1 hk2 no)
     clear_value jp2
     by_cases hneq:neq' > 0
     ·refine za0 hneq ?_
      exact wpS_bind (wpS_reverse (H2 _ _ (hN3.setArr (mirror_perm _ _ _ _))))
     ·refine zav hneq ?_
      exact H2 _ _ hN3
   clear_value jp
   by_cases hgt:n > 1
   ·refine za0 hgt ?_
    refine wpS_bind (ze9 hC hB (by exact Ar.l03 (.lt (.v 0) (.v 1)) [(.le (.a (.v 0) (.v 2)) (.v 1)),(.le (.k 1) (.v 2))] (by kernel_rfl) hn h1) (B0 hn2) fun b z1=>?_)
    refine zke b ?_ ?_
    ·exact wpS_pure (h n st' (.refl hB) hn1 hn2 no)
    ·exact wpS_bind (wpS_reverse (H1 _ _ ((Nx.refl hB).setArr (mirror_perm _ _ _ _))))
   ·refine zav hgt ?_
    exact H1 _ _ (.refl hB)
theorem zim (hC:Ask prog w A s κ Lt a₀) {st:SortSt} {lo n ok:Nat} {Q:Bool->SortSt->Prop} (hn:lo+n<=a₀.size) (hB:TB κ a₀ st)
  (h:∀ st',Nx κ a₀ st st'->Q true st'):wpS (model prog w) A E s (binarySort' lo n ok) Q st:=by
 rw [binarySort'_eq]
 refine wpS_bind (wpS_mono (wpS_forRange (I:=fun k c st'=>c=(none,())/\Nx κ a₀ st st') (Q:=fun c st'=>c=(none,())/\Nx κ a₀ st st') ?step (fun z1 z2 q=>q) ⟨rfl,.refl hB⟩) ?post)
 case post=>
  rintro c st' ⟨rfl,hB'⟩
  exact wpS_pure (h st' hB')
 case step=>
  rintro k c st' hak hkn ⟨rfl,hN'⟩
  have hkz:lo+k<a₀.size:=Nat.lt_of_lt_of_le (Nat.add_lt_add_left hkn lo) hn
  refine wpS_bind (wpS_mono (wpS_forRange (I:=fun x c st''=>st''=st'/\∃ l q,c=(none,l,q)/\l<=q/\q<=k) (Q:=fun c st''=>st''=st'/\∃ l q,c=(none,l,q)) ?istep ?ifin ⟨rfl,0,k,rfl,Nat.zero_le _,Nat.le_refl _⟩) ?ipost)
  case ifin=>
   rintro c st'' ⟨rfl,l,q,rfl,_⟩
   exact ⟨rfl,l,q,rfl⟩
  case istep=>
   rintro x c st'' _ hxk ⟨rfl,l,q,rfl,hlr,hrk⟩
   dsimp only
   by_cases hge:l ≥ q
   ·refine za0 hge ?_
    exact wpS_pure ⟨rfl,l,q,rfl⟩
   ·refine zav hge ?_
    have y1:l<=(l+q) / 2:=(Nat.le_div_iff_mul_le (by decide)).mpr (by rw [Nat.mul_two];exact Nat.add_le_add_left (Nat.le_of_lt (Nat.not_le.mp hge)) l)
    have y2:(l+q) / 2<q:=(Nat.div_lt_iff_lt_mul (by decide)).mpr (by rw [Nat.mul_two];exact Nat.add_lt_add_right (Nat.not_le.mp hge) q)
    refine wpS_bind (ze9 hC hN'.tb hkz (by exact Ar.l05 (.lt (.a (.v 0) (.v 1)) (.v 2)) [(.lt (.a (.v 0) (.v 3)) (.v 2)),(.le (.v 4) (.v 3)),(.lt (.v 1) (.v 4))] (by kernel_rfl) hkz hrk y2) fun b z1=>?_)
    refine zke b ?_ ?_
    ·exact wpS_pure ⟨rfl,l,(l+q) / 2,rfl,y1,by (exact Ar.l03 (.le (.v 0) (.v 1)) [(.le (.v 2) (.v 1)),(.lt (.v 0) (.v 2))] (by kernel_rfl) hrk y2)⟩
    ·exact wpS_pure ⟨rfl,(l+q) / 2+1,q,rfl,y2,hrk⟩
  case ipost=>
   rintro c st'' ⟨rfl,l,q,rfl⟩
   show wpS _ _ _ _ (do moveDown' (lo+k) (lo+l);pure (ForInStep.yield (none,()))) _ _
   rw [moveDown'_eq]
   exact wpS_bind (wpS_modify (wpS_pure ⟨rfl,hN'.setArr (bubble_perm _ _ _)⟩))
noncomputable def zos:Bool->Keyed->Array Keyed->Nat->Nat->Nat->StateT SortSt Sem (Option Nat):=sortPriv% PySem.Builtin.gallop
theorem z0y (hC:Ask prog w A s κ Lt a₀) {st:SortSt} {left:Bool} {key p:Keyed} {arr:Array Keyed} {j:Nat} {Q:Option Bool->SortSt->Prop} (hk:kindOf st=κ) (hkey:key∈a₀.toList) (hp:arr[j]?=some p) (hm:p∈a₀.toList)
  (h:∀ b,Q (some b) st):wpS (model prog w) A E s (elem' arr j >>= fun x=>if left=true then lt' x key else lt' key x >>= fun o=>pure (o.map fun b=>!b)) Q st:=by
 refine wpS_bind (zaw hp ?_)
 cases left with
 | true=>exact zpu hC hk hm hkey fun b z1=>h b
 | false=>exact wpS_bind (zpu hC hk hkey hm fun b z1=>wpS_pure (h (!b)))
theorem zfa (hC:Ask prog w A s κ Lt a₀) {st:SortSt} {left:Bool} {key:Keyed} {arr:Array Keyed} {base n hint:Nat} {Q:Option Nat->SortSt->Prop} (hk:kindOf st=κ) (hkey:key∈a₀.toList)
  (hin:∀ i,i<n->∃ p,arr[base+i]?=some p/\p∈a₀.toList) (hh:hint<n) (h:∀ k,k<=n->Q (some k) st) :
  wpS (model prog w) A E s (zos left key arr base n hint) Q st:=by
 unfold zos
 have ask:∀ {i:Nat} {Q':Option Bool->SortSt->Prop},i<n->(∀ b,Q' (some b) st)->wpS (model prog w) A E s (elem' arr (base+i) >>= fun x=>if left=true then lt' x key else lt' key x >>= fun o=>pure (o.map fun b=>!b)) Q' st:=fun hi q=>by
  obtain ⟨p,hp,hm⟩:=hin _ hi
  exact z0y hC hk hkey hp hm q
 refine wpS_bind (ask hh fun b=>?_)
 dsimp -zeta -zetaHave -zetaUnused only
 extract_lets -underBinder -merge +onlyGivenNames jp
 have H:∀ u la ofs lo hi,lo<=hi->hi<=n->wpS (model prog w) A E s (jp u la ofs lo hi) Q st:=by
  intro u la ofs lo hi b3 b4
  refine wpS_bind (wpS_mono (wpS_forRange (I:=fun x c st''=>st''=st/\∃ l u,c=(none,l,u)/\u<=n) (Q:=fun c st''=>st''=st/\∃ l u,c=(none,l,u)/\u<=n) ?_ (fun z1 z2 q=>q) ⟨rfl,lo,hi,rfl,b4⟩) ?_)
  ·rintro x c st'' _ hx ⟨rfl,l,u,rfl,k2⟩
   dsimp only
   by_cases hge:l ≥ u
   ·refine za0 hge ?_
    exact wpS_pure ⟨rfl,l,u,rfl,k2⟩
   ·refine zav hge ?_
    have y:l+(u - l) / 2<u:=by
     have:(u - l) / 2<u - l:=Nat.div_lt_self (by exact Ar.l02 (.lt (.k 0) (.s (.v 0) (.v 1))) [(.no (.le (.v 0) (.v 1)))] (by kernel_rfl) hge) (by decide)
     (exact Ar.l03 (.lt (.a (.v 0) (.v 1)) (.v 2)) [(.lt (.v 1) (.s (.v 2) (.v 0)))] (by kernel_rfl) this)
    refine wpS_bind (ask (Nat.lt_of_lt_of_le y k2) fun b=>?_)
    refine zke b ?_ ?_
    ·exact wpS_pure ⟨rfl,_,u,rfl,k2⟩
    ·exact wpS_pure ⟨rfl,l,_,rfl,Nat.le_trans (Nat.le_of_lt y) k2⟩
  ·rintro c st'' ⟨rfl,l,u,rfl,k2⟩
   exact wpS_pure (h u k2)
 clear_value jp
 cases b with
 | true=>
  refine za0 rfl ?_
  refine wpS_bind (wpS_mono (wpS_forRange (I:=fun x c st'=>st'=st/\∃ last ofs,c=(none,last,ofs)/\last<ofs/\hint+last<n) (Q:=fun c st'=>st'=st/\∃ last ofs,c=(none,last,ofs)/\last<ofs/\hint+last<n) ?_ (fun z1 z2 q=>q) ⟨rfl,0,1,rfl,Nat.zero_lt_one,by (exact Ar.l02 (.lt (.a (.v 0) (.k 0)) (.v 1)) [(.lt (.v 0) (.v 1))] (by kernel_rfl) hh)⟩) ?_)
  ·rintro x c st' _ hx ⟨rfl,last,ofs,rfl,h2,h3⟩
   dsimp only
   by_cases hge:ofs ≥ n - hint
   ·refine za0 hge ?_
    exact wpS_pure ⟨rfl,last,ofs,rfl,h2,h3⟩
   ·refine zav hge ?_
    refine wpS_bind (ask (by exact Ar.l03 (.lt (.a (.v 0) (.v 1)) (.v 2)) [(.no (.le (.s (.v 2) (.v 0)) (.v 1)))] (by kernel_rfl) hge) fun b=>?_)
    refine zke (!b) ?_ ?_
    ·exact wpS_pure ⟨rfl,last,ofs,rfl,h2,h3⟩
    ·exact wpS_pure ⟨rfl,ofs,2 * ofs+1,rfl,by (exact Ar.l01 (.lt (.v 0) (.a (.m 2 (.v 0)) (.k 1))) [] (by kernel_rfl) ),by (exact Ar.l03 (.lt (.a (.v 0) (.v 1)) (.v 2)) [(.no (.le (.s (.v 2) (.v 0)) (.v 1)))] (by kernel_rfl) hge)⟩
  ·rintro c st' ⟨rfl,last,ofs,rfl,h2,h3⟩
   dsimp only
   exact H _ _ _ _ _ (Nat.add_le_add_left (Nat.le_min.mpr ⟨h2,Nat.lt_sub_iff_add_lt'.mpr h3⟩) hint) (Nat.le_trans (Nat.add_le_add_left (Nat.min_le_right _ _) hint) (Nat.le_of_eq (Nat.add_sub_cancel' (Nat.le_of_lt hh))))
 | false=>
  refine zav (by decide) ?_
  refine wpS_bind (wpS_mono (wpS_forRange (I:=fun x c st'=>st'=st/\∃ last ofs,c=(none,last,ofs)/\last<ofs/\last<=hint) (Q:=fun c st'=>st'=st/\∃ last ofs,c=(none,last,ofs)/\last<ofs/\last<=hint) ?_ (fun z1 z2 q=>q) ⟨rfl,0,1,rfl,Nat.zero_lt_one,Nat.zero_le _⟩) ?_)
  ·rintro x c st' _ hx ⟨rfl,last,ofs,rfl,h2,h3⟩
   dsimp only
   by_cases hge:ofs ≥ hint+1
   ·refine za0 hge ?_
    exact wpS_pure ⟨rfl,last,ofs,rfl,h2,h3⟩
   ·refine zav hge ?_
    refine wpS_bind (ask (by exact Ar.l03 (.lt (.s (.v 0) (.v 1)) (.v 2)) [(.lt (.v 0) (.v 2))] (by kernel_rfl) hh) fun b=>?_)
    refine zke b ?_ ?_
    ·exact wpS_pure ⟨rfl,last,ofs,rfl,h2,h3⟩
    ·exact wpS_pure ⟨rfl,ofs,2 * ofs+1,rfl,by (exact Ar.l01 (.lt (.v 0) (.a (.m 2 (.v 0)) (.k 1))) [] (by kernel_rfl) ),by (exact Ar.l02 (.le (.v 0) (.v 1)) [(.no (.le (.a (.v 1) (.k 1)) (.v 0)))] (by kernel_rfl) hge)⟩
  ·rintro c st' ⟨rfl,last,ofs,rfl,h2,h3⟩
   dsimp only
   exact H _ _ _ _ _ (Nat.le_trans (Nat.sub_le_sub_left (Nat.le_min.mpr ⟨h2,Nat.succ_le_succ h3⟩) (hint+1)) (Nat.le_of_eq (Nat.succ_sub_succ hint last))) (by exact Ar.l03 (.le (.s (.v 0) (.v 1)) (.v 2)) [(.lt (.v 0) (.v 2))] (by kernel_rfl) hh)
end Tim
end Mine
end
section
namespace Mine
namespace Tim
open PySem PyProof.Rows
variable {prog:Program} {w:World} {A:Around} {E:Value->Shared->Prop} {s:Shared} {κ:SortKind} {Lt:Keyed->Keyed->Prop} {a₀:Array Keyed}
structure Gs (st st':SortSt):Prop where
 kind:kindOf st'=kindOf st
 arr:arrOf st'=arrOf st
 pend:pendingOf st'=pendingOf st
 failed:failedOf st'=failedOf st
theorem Gs.refl {st:SortSt}:Gs st st:=⟨rfl,rfl,rfl,rfl⟩
theorem Gs.gal {st st':SortSt} (h:Gs st st') (g:Nat):Gs st (SortSt.mk' (kindOf st') (arrOf st') (pendingOf st') g (failedOf st')):=⟨h.kind,h.arr,h.pend,h.failed⟩
theorem zj1 {xs:Array Keyed} (h:∀ x∈xs.toList,x∈a₀.toList) {i:Nat} (hi:i<xs.size):∃ x,xs[i]?=some x/\x∈a₀.toList:=by
 have e:xs[i]?=some xs[i]:=getElem?_pos xs i hi
 exact ⟨_,e,h _ (by simp)⟩
theorem zkd (hC:Ask prog w A s κ Lt a₀) {st:SortSt} {left:Bool} {key:Keyed} {arr:Array Keyed} {base n hint:Nat} {Q:Option Nat->SortSt->Prop} (hk:kindOf st=κ) (hkey:key∈a₀.toList) (hmem:∀ x∈arr.toList,x∈a₀.toList)
  (hn:base+n<=arr.size) (hh:hint<n) (h:∀ k,k<=n->Q (some k) st):wpS (model prog w) A E s (zos left key arr base n hint) Q st:=
 zfa hC hk hkey (fun i hi=>zj1 hmem (by exact Ar.l04 (.lt (.a (.v 0) (.v 1)) (.v 2)) [(.le (.a (.v 0) (.v 3)) (.v 2)),(.lt (.v 1) (.v 3))] (by kernel_rfl) hn hi)) hh h
theorem zdo {α:Type} {st:SortSt} {xs:Array Keyed} {i:Nat} {f:Keyed->StateT SortSt Sem α} {Q:α->SortSt->Prop} (hm:∀ x∈xs.toList,x∈a₀.toList) (hi:i<xs.size) (h:∀ x,xs[i]?=some x->x∈a₀.toList->wpS (model prog w) A E s (f x) Q st):wpS (model prog w) A E s (elem' xs i >>= f) Q st:=by
 obtain ⟨x,hx,mx⟩:=zj1 hm hi
 exact wpS_bind (zaw hx (h x hx mx))
theorem zs6 {α:Type} (hC:Ask prog w A s κ Lt a₀) {st:SortSt} {xs ys:Array Keyed} {i j:Nat} {f:Option Bool->StateT SortSt Sem α} {Q:α->SortSt->Prop} (hk:kindOf st=κ) (hx:∀ x∈xs.toList,x∈a₀.toList) (hy:∀ x∈ys.toList,x∈a₀.toList) (hi:i<xs.size) (hj:j<ys.size)
  (h:∀ x y b,xs[i]?=some x->ys[j]?=some y->wpS (model prog w) A E s (f (some b)) Q st):wpS (model prog w) A E s (elem' xs i >>= fun x=>elem' ys j >>= fun y=>lt' x y >>= f) Q st:=
 zdo hx hi fun x ex mx=>zdo hy hj fun y ey my=>wpS_bind (zpu hC hk mx my fun b z1=>h x y b ex ey)
noncomputable def zkz:Array Keyed->Array Keyed->StateT SortSt Sem (Array Keyed):=sortPriv% PySem.Builtin.mergeLo
noncomputable def zk0:Array Keyed->Array Keyed->StateT SortSt Sem (Array Keyed):=sortPriv% PySem.Builtin.mergeHi
structure Two (a₀ a b:Array Keyed):Prop where
 ma:∀ x∈a.toList,x∈a₀.toList
 mb:∀ x∈b.toList,x∈a₀.toList
 a0:0<a.size
 b0:0<b.size
def zg3 (a b res:Array Keyed):Prop:=res.toList.Perm (a.toList++b.toList)
def MI (a b out:Array Keyed) (ia ib:Nat):Prop:=out.toList.Perm (a.toList.take ia++b.toList.take ib)
def MJ (a b out:Array Keyed) (na nb:Nat):Prop:=out.toList.Perm (a.toList.drop na++b.toList.drop nb)
theorem sw3 {α:Type} (x y z:List α):(x++y++z).Perm (x++z++y):=by
 rw [List.append_assoc,List.append_assoc];exact List.perm_append_comm.append_left x
theorem zan (xs:Array Keyed) (i j:Nat):(xs.extract i j).toList=(xs.toList.drop i).take (j - i):=by simp
theorem zkg {l:List Keyed} {i k:Nat}:l.take i++(l.drop i).take k=l.take (i+k):=List.take_add.symm
theorem zk7 {xs:Array Keyed} {i:Nat} {x:Keyed} (h:xs[i]?=some x):(xs.toList.drop i).take 1=[x]:=by
 rw [List.take_one,List.head?_drop,Array.getElem?_toList,h];rfl
section
variable {a b out:Array Keyed} {ia ib k:Nat} {x:Keyed}
theorem MI.takeA (h:MI a b out ia ib):MI a b (out++a.extract ia (ia+k)) (ia+k) ib:=by
 unfold MI at *
 rw [Array.toList_append,zan,Nat.add_sub_cancel_left,← zkg]
 exact (h.append_right _).trans (sw3 _ _ _)
theorem MI.takeB (h:MI a b out ia ib):MI a b (out++b.extract ib (ib+k)) ia (ib+k):=by
 unfold MI at *
 rw [Array.toList_append,zan,Nat.add_sub_cancel_left,← zkg,← List.append_assoc]
 exact h.append_right _
theorem MI.pushA (h:MI a b out ia ib) (hx:a[ia]?=some x):MI a b (out.push x) (ia+1) ib:=by
 have:=h.takeA (k:=1)
 unfold MI at *
 rw [Array.toList_append,zan,Nat.add_sub_cancel_left,zk7 hx] at this
 rw [Array.toList_push];exact this
theorem MI.pushB (h:MI a b out ia ib) (hx:b[ib]?=some x):MI a b (out.push x) ia (ib+1):=by
 have:=h.takeB (k:=1)
 unfold MI at *
 rw [Array.toList_append,zan,Nat.add_sub_cancel_left,zk7 hx] at this
 rw [Array.toList_push];exact this
theorem zvl (xs:Array Keyed) (i:Nat):(xs.extract i).toList=xs.toList.drop i:=by
 rw [zan];exact List.take_of_length_le (by simp)
theorem MI.last (h:MI a b out ia ib):zg3 a b (out++b.extract ib++a.extract ia):=by
 unfold MI at h;unfold zg3
 rw [Array.toList_append,Array.toList_append,zvl,zvl]
 refine ((h.append_right _).append_right _).trans ?_
 rw [List.append_assoc (a.toList.take ia),List.take_append_drop]
 refine (sw3 _ _ _).trans ?_
 rw [List.take_append_drop]
theorem MI.done (h:MI a b out ia ib):zg3 a b (out++a.extract ia++b.extract ib):=by
 have:=h.last
 unfold zg3 at *
 rw [Array.toList_append,Array.toList_append] at *
 exact (sw3 _ _ _).trans this
theorem zqt {l:List Keyed} {k n:Nat} (h:k<=n):(l.drop k).take (n - k)++l.drop n=l.drop k:=by
 have:=List.take_append_drop (n - k) (l.drop k)
 rwa [List.drop_drop,Nat.add_sub_of_le h] at this
theorem MJ.takeA {na nb:Nat} (h:MJ a b out na nb) (hk:k<=na):MJ a b (out++(a.extract k na).reverse) k nb:=by
 unfold MJ at *
 rw [Array.toList_append,Array.toList_reverse,zan]
 refine (h.append_right _).trans (List.perm_append_comm.trans ?_)
 rw [← List.append_assoc]
 exact (((List.reverse_perm _).append_right _).trans (.of_eq (zqt hk))).append_right _
theorem MJ.takeB {na nb:Nat} (h:MJ a b out na nb) (hk:k<=nb):MJ a b (out++(b.extract k nb).reverse) na k:=by
 unfold MJ at *
 rw [Array.toList_append,Array.toList_reverse,zan]
 refine (h.append_right _).trans ?_
 rw [List.append_assoc]
 exact (List.perm_append_comm.trans (((List.reverse_perm _).append_right _).trans (.of_eq (zqt hk)))).append_left _
theorem MJ.pushA {na nb:Nat} (h:MJ a b out na nb) (h1:1<=na) (hx:a[na - 1]?=some x):MJ a b (out.push x) (na - 1) nb:=by
 have:=h.takeA (k:=na - 1) (Nat.sub_le _ _)
 unfold MJ at *
 rw [Array.toList_append,Array.toList_reverse,zan,Nat.sub_sub_self h1,zk7 hx] at this
 rw [Array.toList_push];exact this
theorem MJ.pushB {na nb:Nat} (h:MJ a b out na nb) (h1:1<=nb) (hx:b[nb - 1]?=some x):MJ a b (out.push x) na (nb - 1):=by
 have:=h.takeB (k:=nb - 1) (Nat.sub_le _ _)
 unfold MJ at *
 rw [Array.toList_append,Array.toList_reverse,zan,Nat.sub_sub_self h1,zk7 hx] at this
 rw [Array.toList_push];exact this
theorem MJ.done {na nb:Nat} (h:MJ a b out na nb):zg3 a b (a.extract 0 na++b.extract 0 nb++out.reverse):=by
 unfold MJ at h;unfold zg3
 rw [Array.toList_append,Array.toList_append,Array.toList_reverse,zan,zan]
 refine (((List.reverse_perm _).trans h).append_left _).trans ?_
 simp only [List.drop_zero,Nat.sub_zero]
 rw [← List.append_assoc]
 refine ((sw3 _ _ _).append_right _).trans ?_
 rw [List.take_append_drop,List.append_assoc,List.take_append_drop]
theorem MJ.first {na nb:Nat} (h:MJ a b out na nb):zg3 a b (b.extract 0 nb++a.extract 0 na++out.reverse):=by
 have:=h.done
 unfold zg3 at *
 rw [Array.toList_append,Array.toList_append] at *
 exact (List.perm_append_comm.append_right _).trans this
end
structure LoI (a b:Array Keyed) (p:Nat) (out:Array Keyed) (ia ib:Nat):Prop where
 m:MI a b out ia ib
 i1:ia+1<a.size
 i2:ib<b.size
 pr:p<=ia+ib
section
variable {a b out:Array Keyed} {p q ia ib k:Nat} {x:Keyed}
theorem LoI.le (h:LoI a b p out ia ib) (hq:q<=p):LoI a b q out ia ib:=⟨h.m,h.i1,h.i2,Nat.le_trans hq h.pr⟩
theorem LoI.pushB (h:LoI a b p out ia ib) (hx:b[ib]?=some x) :
  (ib+1=b.size->zg3 a b (out.push x++a.extract ia++b.extract (ib+1)))/\(ib+1≠b.size->LoI a b (p+1) (out.push x) ia (ib+1)):=by
 have M:=h.m.pushB hx
 have i2:=h.i2
 have pr:=h.pr
 exact ⟨fun z1=>M.done,fun e=>⟨M,h.i1,by (exact Ar.l02 (.lt (.a (.v 0) (.k 1)) (.v 1)) [(.lt (.v 0) (.v 1)),(.no (.eq (.a (.v 0) (.k 1)) (.v 1)))] (by kernel_rfl) i2 e),by (exact Ar.l03 (.le (.a (.v 0) (.k 1)) (.a (.v 1) (.a (.v 2) (.k 1)))) [(.le (.v 0) (.a (.v 1) (.v 2)))] (by kernel_rfl) pr)⟩⟩
theorem LoI.pushA (h:LoI a b p out ia ib) (hx:a[ia]?=some x) :
  (ia+1+1=a.size->zg3 a b (out.push x++b.extract ib++a.extract (ia+1)))/\(ia+1+1≠a.size->LoI a b (p+1) (out.push x) (ia+1) ib):=by
 have M:=h.m.pushA hx
 have i1:=h.i1
 have pr:=h.pr
 exact ⟨fun z1=>M.last,fun e=>⟨M,by (exact Ar.l02 (.lt (.a (.a (.v 0) (.k 1)) (.k 1)) (.v 1)) [(.lt (.a (.v 0) (.k 1)) (.v 1)),(.no (.eq (.a (.a (.v 0) (.k 1)) (.k 1)) (.v 1)))] (by kernel_rfl) i1 e),h.i2,by (exact Ar.l03 (.le (.a (.v 0) (.k 1)) (.a (.a (.v 1) (.k 1)) (.v 2))) [(.le (.v 0) (.a (.v 1) (.v 2)))] (by kernel_rfl) pr)⟩⟩
theorem LoI.takeA (h:LoI a b p out ia ib) (hz:ia+k<=a.size) :
  (ia+k+1=a.size->zg3 a b (out++a.extract ia (ia+k)++b.extract ib++a.extract (ia+k)))/\(ia+k=a.size->zg3 a b (out++a.extract ia (ia+k)++a.extract (ia+k)++b.extract ib))/\
   (ia+k+1≠a.size->ia+k≠a.size->LoI a b p (out++a.extract ia (ia+k)) (ia+k) ib):=by
 have M:=h.m.takeA (k:=k)
 have pr:=h.pr
 exact ⟨fun z1=>M.last,fun z1=>M.done,fun e1 e2=>⟨M,by (exact Ar.l03 (.lt (.a (.a (.v 0) (.v 1)) (.k 1)) (.v 2)) [(.le (.a (.v 0) (.v 1)) (.v 2)),(.no (.eq (.a (.a (.v 0) (.v 1)) (.k 1)) (.v 2))),(.no (.eq (.a (.v 0) (.v 1)) (.v 2)))] (by kernel_rfl) hz e1 e2),h.i2,by (exact Ar.l04 (.le (.v 0) (.a (.a (.v 1) (.v 2)) (.v 3))) [(.le (.v 0) (.a (.v 1) (.v 3)))] (by kernel_rfl) pr)⟩⟩
theorem LoI.takeB (h:LoI a b p out ia ib) (hzz:ib+k<=b.size) :
  (ib+k=b.size->zg3 a b (out++b.extract ib (ib+k)++a.extract ia++b.extract (ib+k)))/\(ib+k≠b.size->LoI a b p (out++b.extract ib (ib+k)) ia (ib+k)):=by
 have M:=h.m.takeB (k:=k)
 have pr:=h.pr
 exact ⟨fun z1=>M.done,fun e=>⟨M,h.i1,by (exact Ar.l03 (.lt (.a (.v 0) (.v 1)) (.v 2)) [(.le (.a (.v 0) (.v 1)) (.v 2)),(.no (.eq (.a (.v 0) (.v 1)) (.v 2)))] (by kernel_rfl) hzz e),by (exact Ar.l04 (.le (.v 0) (.a (.v 1) (.a (.v 2) (.v 3)))) [(.le (.v 0) (.a (.v 1) (.v 2)))] (by kernel_rfl) pr)⟩⟩
end
def LoL (a b:Array Keyed) (st:SortSt) (p:Nat) (out:Array Keyed) (ia ib:Nat) (st':SortSt):Prop:=Gs st st'/\LoI a b p out ia ib
def LoE (a b:Array Keyed) (st:SortSt) (c:Option (Array Keyed)) (st':SortSt):Prop:=∃ res,c=some res/\zg3 a b res/\Gs st st'
noncomputable def LoQ {γ:Type} (a b:Array Keyed) (st:SortSt) (p:Nat):ForInStep (Option (Array Keyed) × Array Keyed × Nat × Nat × γ)->SortSt->Prop
 | .done c',st'=>LoE a b st c'.1 st'\/(c'.1=none/\LoL a b st p c'.2.1 c'.2.2.1 c'.2.2.2.1 st')
 | .yield c',st'=>c'.1=none/\LoL a b st p c'.2.1 c'.2.2.1 c'.2.2.2.1 st'
theorem z4g {y t a b c d:Nat} (h0:t=a+b) (h1:c+1<a) (h2:d<b) (h3:y+max 0 t<=c+d):False:=
 Nat.lt_irrefl t (Nat.lt_of_le_of_lt (Nat.le_trans (Nat.le_trans (Nat.le_max_right 0 t) (Nat.le_add_left _ y)) h3) (Nat.lt_of_lt_of_le (Nat.add_lt_add (Nat.lt_of_succ_lt h1) h2) (Nat.le_of_eq h0.symm)))
theorem z4h {y t a b c d:Nat} (h0:t=a+b) (h1:0<c) (h3:c+d+(y+max 0 t)<=a+b):False:=
 Nat.lt_irrefl t (Nat.lt_of_lt_of_le (Nat.lt_of_lt_of_le (Nat.lt_add_of_pos_left h1) (Nat.add_le_add (Nat.le_add_right c d) (Nat.le_trans (Nat.le_max_right 0 t) (Nat.le_add_left _ y)))) (Nat.le_trans h3 (Nat.le_of_eq h0.symm)))
theorem zny (hC:Ask prog w A s κ Lt a₀) {st:SortSt} {a b:Array Keyed} {Q:Array Keyed->SortSt->Prop} (hk:kindOf st=κ) (T:Two a₀ a b) (h:∀ res st',Gs st st'->zg3 a b res->Q res st') :
  wpS (model prog w) A E s (zkz a b) Q st:=by
 have getA:∀ {i},i<a.size->∃ x,a[i]?=some x/\x∈a₀.toList:=zj1 T.ma
 have getB:∀ {i},i<b.size->∃ x,b[i]?=some x/\x∈a₀.toList:=zj1 T.mb
 unfold zkz
 refine wpS_bind (wpS_lift (wpAny_rule ⟨rfl,?_⟩))
 extract_lets -underBinder -merge +onlyGivenNames total done lastOfA
 obtain ⟨y0,hy0,my0⟩:=getB T.b0
 refine wpS_bind (zaw hy0 ?_)
 extract_lets -underBinder -merge +onlyGivenNames out ia ib
 have M0:MI a b #[y0] 0 1:=MI.pushB (out:=#[]) (by simp [MI]) hy0
 by_cases e1:b.size=1
 ·refine za0 (show (ib == b.size)=true by rw [e1];rfl) ?_
  exact wpS_pure (h _ _ .refl (M0.done))
 refine zav (show ¬ (ib == b.size)=true from fun q=>e1 (beq_iff_eq.mp q).symm) ?_
 by_cases e2:a.size=1
 ·refine za0 (show (ia+1 == a.size)=true by rw [e2];rfl) ?_
  exact wpS_pure (h _ _ .refl (M0.last))
 refine zav (show ¬ (ia+1 == a.size)=true from fun q=>e2 (beq_iff_eq.mp q).symm) ?_
 refine wpS_bind (wpS_get ?_)
 extract_lets -underBinder -merge +onlyGivenNames mg
 have htot:total=a.size+b.size:=rfl
 refine wpS_bind (wpS_mono (wpS_forRange (I:=fun x c st'=>c.1=none/\LoL a b st (x+1) c.2.1 c.2.2.1 c.2.2.2.1 st') (Q:=fun c st'=>LoE a b st c.1 st') ?_ ?_ ?_) ?_)
 ·rintro x c st' _ hx ⟨_,hG,I⟩
  extract_lets -underBinder -merge +onlyGivenNames u1 o1 u2 i1 u3 j1 mg1 ac bc
  replace I:LoI a b (x+1) o1 i1 j1:=I
  clear_value o1 i1 j1 mg1 ac bc
  refine wpS_bind (wpS_mono (wpS_forRange (I:=fun x1 c st''=>c.1=none/\LoL a b st (x+1+x1) c.2.1 c.2.2.1 c.2.2.2.1 st'')
   (Q:=fun c st''=>LoE a b st c.1 st''\/(c.1=none/\LoL a b st (x+2) c.2.1 c.2.2.1 c.2.2.2.1 st'')) ?_ ?_ ⟨rfl,hG,I⟩) ?_)
  ·rintro x1 c1 st'' _ hx1 ⟨_,hG,I⟩
   extract_lets -underBinder -merge +onlyGivenNames v1 o2 v2 i2 v3 j2 v4 ac2 bc2
   replace I:LoI a b (x+1+x1) o2 i2 j2:=I
   clear_value o2 i2 j2 ac2 bc2
   refine zs6 hC (hG.kind.trans hk) T.mb T.ma I.i2 (Nat.lt_of_succ_lt I.i1) fun y z bw hy hz=>zke bw ?_ ?_
   ·skip
    refine wpS_bind (zaw hy ?_)
    have P:=I.pushB hy
    extract_lets -underBinder -merge +onlyGivenNames o3 j3 bc3 ac3
    by_cases e:j2+1=b.size
    ·refine za0 (show (j3 == b.size)=true from beq_iff_eq.mpr e) ?_
     exact wpS_pure (.inl ⟨_,rfl,P.1 e,hG⟩)
    ·refine zav (show ¬ (j3 == b.size)=true from fun q=>e (beq_iff_eq.mp q)) ?_
     split
     ·exact wpS_pure (.inr ⟨rfl,hG,(P.2 e).le (by exact Ar.l02 (.le (.a (.v 0) (.k 2)) (.a (.a (.a (.v 0) (.k 1)) (.v 1)) (.k 1))) [] (by kernel_rfl))⟩)
     ·exact wpS_pure ⟨rfl,hG,P.2 e⟩
   ·skip
    refine wpS_bind (zaw hz ?_)
    have P:=I.pushA hz
    extract_lets -underBinder -merge +onlyGivenNames o3 i3 ac3 bc3
    by_cases e:i2+1+1=a.size
    ·refine za0 (show (i3+1 == a.size)=true from beq_iff_eq.mpr e) ?_
     exact wpS_pure (.inl ⟨_,rfl,P.1 e,hG⟩)
    ·refine zav (show ¬ (i3+1 == a.size)=true from fun q=>e (beq_iff_eq.mp q)) ?_
     split
     ·exact wpS_pure (.inr ⟨rfl,hG,(P.2 e).le (by exact Ar.l02 (.le (.a (.v 0) (.k 2)) (.a (.a (.a (.v 0) (.k 1)) (.v 1)) (.k 1))) [] (by kernel_rfl))⟩)
     ·exact wpS_pure ⟨rfl,hG,P.2 e⟩
  ·rintro c st' ⟨_,_,I⟩
   exact (z4g htot I.i1 I.i2 I.pr).elim
  ·rintro c1 st'' hor
   extract_lets -underBinder -merge +onlyGivenNames cr v1 o2 v2 i2 v3 j2 v4 ac2 bc2
   rcases hor with ⟨res,hc,hF,hG⟩ | ⟨hc,hG,I⟩
   ·have hcr:cr=some res:=hc
    clear_value cr
    subst hcr
    exact wpS_pure ⟨res,rfl,hF,hG⟩
   ·have hcr:cr=none:=hc
    replace I:LoI a b (x+2) o2 i2 j2:=I
    clear_value cr o2 i2 j2 ac2 bc2
    subst hcr
    refine wpS_bind (wpS_lift (wpAny_rule ⟨rfl,?_⟩))
    extract_lets -underBinder -merge +onlyGivenNames mg2
    refine wpS_bind (wpS_mono (wpS_forRange (I:=fun z1 c st3=>c.1=none/\LoL a b st (x+2) c.2.1 c.2.2.1 c.2.2.2.1 st3)
     (Q:=fun c st3=>LoE a b st c.1 st3\/(c.1=none/\LoL a b st (x+2) c.2.1 c.2.2.1 c.2.2.2.1 st3)) ?_ (fun z1 z2 q=>.inr q) ⟨rfl,hG,I⟩) ?_)
    ·rintro x2 c2 st3 _ _ ⟨_,hG,I⟩
     extract_lets -underBinder -merge +onlyGivenNames w1 o3 w2 i3 w3 j3 w4 mg3 w5 ac3 bc3 jp
     replace I:LoI a b (x+2) o3 i3 j3:=I
     have H:∀ g,wpS (model prog w) A E s (jp () g) (LoQ a b st (x+2)) st3:=by
      intro g
      clear_value o3 i3 j3 ac3 bc3
      refine wpS_bind (wpS_modify ?_)
      have hG4:=hG.gal g
      refine zdo T.mb I.i2 fun y hy my=>wpS_bind ?_
      refine (zkd hC (hG4.kind.trans hk) my T.ma (by have:=I.i1;(exact Ar.l02 (.le (.a (.v 0) (.s (.v 1) (.v 0))) (.v 1)) [(.lt (.a (.v 0) (.k 1)) (.v 1))] (by kernel_rfl) this)) (by have:=I.i1;(exact Ar.l02 (.lt (.k 0) (.s (.v 0) (.v 1))) [(.lt (.a (.v 1) (.k 1)) (.v 0))] (by kernel_rfl) this)) ?_)
      intro k hk1
      have hz1:i3+k<=a.size:=by have:=I.i1;(exact Ar.l03 (.le (.a (.v 0) (.v 1)) (.v 2)) [(.le (.v 1) (.s (.v 2) (.v 0))),(.lt (.a (.v 0) (.k 1)) (.v 2))] (by kernel_rfl) hk1 this)
      have P:=I.takeA (k:=k) hz1
      dsimp -zeta -zetaHave -zetaUnused only
      extract_lets -underBinder -merge +onlyGivenNames ac4 jp2
      have H2:∀ o i,LoI a b (x+2) o i j3->wpS (model prog w) A E s (jp2 () o i) (LoQ a b st (x+2)) (SortSt.mk' (kindOf st3) (arrOf st3) (pendingOf st3) g (failedOf st3)):=by
       clear P I
       intro o i I
       clear_value ac4
       refine wpS_bind (zaw hy ?_)
       have P:=I.pushB hy
       extract_lets -underBinder -merge +onlyGivenNames o5 j5
       by_cases e:j3+1=b.size
       ·refine za0 (show (j5 == b.size)=true from beq_iff_eq.mpr e) ?_
        exact wpS_pure (.inl ⟨_,rfl,P.1 e,hG4⟩)
       ·refine zav (show ¬ (j5 == b.size)=true from fun q=>e (beq_iff_eq.mp q)) ?_
        replace P:LoI a b (x+3) o5 i j5:=P.2 e
        clear_value o5 j5
        refine zdo T.ma (Nat.lt_of_succ_lt P.i1) fun z hz mz=>wpS_bind ?_
        refine (zkd hC (hG4.kind.trans hk) mz T.mb (by have:=P.i2;(exact Ar.l02 (.le (.a (.v 0) (.s (.v 1) (.v 0))) (.v 1)) [(.lt (.v 0) (.v 1))] (by kernel_rfl) this)) (by have:=P.i2;(exact Ar.l02 (.lt (.k 0) (.s (.v 0) (.v 1))) [(.lt (.v 1) (.v 0))] (by kernel_rfl) this)) ?_)
        intro k1 hk1
        have hz1:j5+k1<=b.size:=by have:=P.i2;(exact Ar.l03 (.le (.a (.v 0) (.v 1)) (.v 2)) [(.le (.v 1) (.s (.v 2) (.v 0))),(.lt (.v 0) (.v 2))] (by kernel_rfl) hk1 this)
        have P2:=P.takeB (k:=k1) hz1
        dsimp -zeta -zetaHave -zetaUnused only
        extract_lets -underBinder -merge +onlyGivenNames bc4 jp3
        have H3:∀ o q,LoI a b (x+3) o i q->wpS (model prog w) A E s (jp3 () o q) (LoQ a b st (x+2)) (SortSt.mk' (kindOf st3) (arrOf st3) (pendingOf st3) g (failedOf st3)):=by
         clear P2 P
         intro o q P
         refine wpS_bind (zaw hz ?_)
         have P2:=P.pushA hz
         extract_lets -underBinder -merge +onlyGivenNames o6 i6
         by_cases e:i+1+1=a.size
         ·refine za0 (show (i6+1 == a.size)=true from beq_iff_eq.mpr e) ?_
          exact wpS_pure (.inl ⟨_,rfl,P2.1 e,hG4⟩)
         ·refine zav (show ¬ (i6+1 == a.size)=true from fun q=>e (beq_iff_eq.mp q)) ?_
          split
          ·exact wpS_pure (.inr ⟨rfl,hG4,(P2.2 e).le (by exact Ar.l01 (.le (.a (.v 0) (.k 2)) (.a (.a (.v 0) (.k 3)) (.k 1))) [] (by kernel_rfl))⟩)
          ·exact wpS_pure ⟨rfl,hG4,(P2.2 e).le (by exact Ar.l01 (.le (.a (.v 0) (.k 2)) (.a (.a (.v 0) (.k 3)) (.k 1))) [] (by kernel_rfl))⟩
        clear_value jp3
        by_cases e4:k1 > 0
        ·refine za0 e4 ?_
         extract_lets -underBinder -merge +onlyGivenNames o7 j7
         by_cases e5:j5+k1=b.size
         ·refine za0 (show (j7 == b.size)=true from beq_iff_eq.mpr e5) ?_
          exact wpS_pure (.inl ⟨_,rfl,P2.1 e5,hG4⟩)
         ·refine zav (show ¬ (j7 == b.size)=true from fun q=>e5 (beq_iff_eq.mp q)) ?_
          exact H3 _ _ (P2.2 e5)
        ·refine zav e4 ?_
         exact H3 _ _ P
      clear_value jp2
      by_cases e4:k > 0
      ·refine za0 e4 ?_
       extract_lets -underBinder -merge +onlyGivenNames o7 i7
       by_cases e5:i3+k+1=a.size
       ·refine za0 (show (i7+1 == a.size)=true from beq_iff_eq.mpr e5) ?_
        exact wpS_pure (.inl ⟨_,rfl,P.1 e5,hG4⟩)
       ·refine zav (show ¬ (i7+1 == a.size)=true from fun q=>e5 (beq_iff_eq.mp q)) ?_
        by_cases e6:i3+k=a.size
        ·refine za0 (show (i7 == a.size)=true from beq_iff_eq.mpr e6) ?_
         exact wpS_pure (.inl ⟨_,rfl,P.2.1 e6,hG4⟩)
        ·refine zav (show ¬ (i7 == a.size)=true from fun q=>e6 (beq_iff_eq.mp q)) ?_
         exact H2 _ _ (P.2.2 e5 e6)
      ·refine zav e4 ?_
       exact H2 _ _ I
     clear_value jp
     split
     ·exact wpS_mono (H (mg3 - 1)) fun r' st' q=>by cases r' <;> exact q
     ·exact wpS_mono (H mg3) fun r' st' q=>by cases r' <;> exact q
    ·rintro c2 st3 hor
     extract_lets -underBinder -merge +onlyGivenNames cr w1 o3 w2 i3 w3 j3 w4 mg3
     rcases hor with ⟨res,hc,hF,hG⟩ | ⟨hc,hG,I⟩
     ·have hcr:cr=some res:=hc
      clear_value cr
      subst hcr
      exact wpS_pure ⟨res,rfl,hF,hG⟩
     ·have hcr:cr=none:=hc
      clear_value cr
      subst hcr
      exact wpS_bind (wpS_modify (wpS_pure ⟨rfl,hG.gal _,I⟩))
 ·rintro c st' ⟨_,_,I⟩
  exact (z4g (y:=1) htot I.i1 I.i2 (Nat.add_comm 1 _ ▸ I.pr)).elim
 ·exact ⟨rfl,.refl,M0,by have:=T.a0;show 0+1<a.size;(exact Ar.l01 (.lt (.a (.k 0) (.k 1)) (.v 0)) [(.no (.eq (.v 0) (.k 1))),(.lt (.k 0) (.v 0))] (by kernel_rfl) e2 this),by have:=T.b0;show 1<b.size;(exact Ar.l01 (.lt (.k 1) (.v 0)) [(.no (.eq (.v 0) (.k 1))),(.lt (.k 0) (.v 0))] (by kernel_rfl) e1 this),Nat.le_refl _⟩
 ·rintro c st' ⟨res,hc,hF,hG⟩
  extract_lets -underBinder -merge +onlyGivenNames cr
  have hcr:cr=some res:=hc
  clear_value cr
  subst hcr
  exact wpS_pure (h res st' hG hF)
structure HiI (a b:Array Keyed) (p:Nat) (out:Array Keyed) (na nb:Nat):Prop where
 m:MJ a b out na nb
 n1:0<na
 n2:1<nb
 n3:na<=a.size
 n4:nb<=b.size
 pr:na+nb+p<=a.size+b.size
section
variable {a b out:Array Keyed} {p q na nb k:Nat} {x:Keyed}
theorem HiI.le (h:HiI a b p out na nb) (hq:q<=p):HiI a b q out na nb:=⟨h.m,h.n1,h.n2,h.n3,h.n4,by have:=h.pr;(exact Ar.l06 (.le (.a (.a (.v 0) (.v 1)) (.v 2)) (.a (.v 3) (.v 4))) [(.le (.v 2) (.v 5)),(.le (.a (.a (.v 0) (.v 1)) (.v 5)) (.a (.v 3) (.v 4)))] (by kernel_rfl) hq this)⟩
theorem HiI.a1 (h:HiI a b p out na nb):na - 1<a.size:=Nat.lt_of_lt_of_le (Nat.sub_lt h.n1 Nat.one_pos) h.n3
theorem HiI.b1 (h:HiI a b p out na nb):nb - 1<b.size:=Nat.lt_of_lt_of_le (Nat.sub_lt (Nat.lt_trans Nat.one_pos h.n2) Nat.one_pos) h.n4
theorem HiI.pushA (h:HiI a b p out na nb) (hx:a[na - 1]?=some x) :
  (na - 1=0->zg3 a b (a.extract 0 (na - 1)++b.extract 0 nb++(out.push x).reverse))/\(na - 1≠0->HiI a b (p+1) (out.push x) (na - 1) nb):=by
 have M:=h.m.pushA h.n1 hx
 have pr:=h.pr
 have n3:=h.n3
 exact ⟨fun z1=>M.done,fun e=>⟨M,Nat.pos_of_ne_zero e,h.n2,by (exact Ar.l02 (.le (.s (.v 0) (.k 1)) (.v 1)) [(.le (.v 0) (.v 1))] (by kernel_rfl) n3),h.n4,by (exact Ar.l05 (.le (.a (.a (.s (.v 0) (.k 1)) (.v 1)) (.a (.v 2) (.k 1))) (.a (.v 3) (.v 4))) [(.le (.a (.a (.v 0) (.v 1)) (.v 2)) (.a (.v 3) (.v 4))),(.no (.eq (.s (.v 0) (.k 1)) (.k 0)))] (by kernel_rfl) pr e)⟩⟩
theorem HiI.pushB (h:HiI a b p out na nb) (hx:b[nb - 1]?=some x) :
  (nb - 1=1->zg3 a b (b.extract 0 (nb - 1)++a.extract 0 na++(out.push x).reverse))/\(nb - 1≠1->HiI a b (p+1) (out.push x) na (nb - 1)):=by
 have M:=h.m.pushB (Nat.le_of_lt h.n2) hx
 have pr:=h.pr
 have n2:=h.n2
 have n4:=h.n4
 exact ⟨fun z1=>M.first,fun e=>⟨M,h.n1,by (exact Ar.l01 (.lt (.k 1) (.s (.v 0) (.k 1))) [(.lt (.k 1) (.v 0)),(.no (.eq (.s (.v 0) (.k 1)) (.k 1)))] (by kernel_rfl) n2 e),h.n3,by (exact Ar.l02 (.le (.s (.v 0) (.k 1)) (.v 1)) [(.le (.v 0) (.v 1))] (by kernel_rfl) n4),by (exact Ar.l05 (.le (.a (.a (.v 0) (.s (.v 1) (.k 1))) (.a (.v 2) (.k 1))) (.a (.v 3) (.v 4))) [(.le (.a (.a (.v 0) (.v 1)) (.v 2)) (.a (.v 3) (.v 4))),(.lt (.k 1) (.v 1))] (by kernel_rfl) pr n2)⟩⟩
theorem HiI.takeA (h:HiI a b p out na nb) (hz:k<=na) :
  (k=0->zg3 a b (a.extract 0 k++b.extract 0 nb++(out++(a.extract k na).reverse).reverse))/\(k≠0->HiI a b p (out++(a.extract k na).reverse) k nb):=by
 have M:=h.m.takeA hz
 have pr:=h.pr
 have n3:=h.n3
 exact ⟨fun z1=>M.done,fun e=>⟨M,Nat.pos_of_ne_zero e,h.n2,by (exact Ar.l03 (.le (.v 0) (.v 1)) [(.le (.v 0) (.v 2)),(.le (.v 2) (.v 1))] (by kernel_rfl) hz n3),h.n4,by (exact Ar.l06 (.le (.a (.a (.v 0) (.v 1)) (.v 2)) (.a (.v 3) (.v 4))) [(.le (.v 0) (.v 5)),(.le (.a (.a (.v 5) (.v 1)) (.v 2)) (.a (.v 3) (.v 4)))] (by kernel_rfl) hz pr)⟩⟩
theorem HiI.takeB (h:HiI a b p out na nb) (hz:k<=nb) :
  (k=1->zg3 a b (b.extract 0 k++a.extract 0 na++(out++(b.extract k nb).reverse).reverse))/\(k=0->zg3 a b (a.extract 0 na++b.extract 0 k++(out++(b.extract k nb).reverse).reverse))/\(k≠1->k≠0->HiI a b p (out++(b.extract k nb).reverse) na k):=by
 have M:=h.m.takeB hz
 have pr:=h.pr
 have n4:=h.n4
 exact ⟨fun z1=>M.first,fun z1=>M.done,fun e1 e2=>⟨M,h.n1,by (exact Ar.l01 (.lt (.k 1) (.v 0)) [(.no (.eq (.v 0) (.k 1))),(.no (.eq (.v 0) (.k 0)))] (by kernel_rfl) e1 e2),h.n3,by (exact Ar.l03 (.le (.v 0) (.v 1)) [(.le (.v 0) (.v 2)),(.le (.v 2) (.v 1))] (by kernel_rfl) hz n4),by (exact Ar.l06 (.le (.a (.a (.v 0) (.v 1)) (.v 2)) (.a (.v 3) (.v 4))) [(.le (.v 1) (.v 5)),(.le (.a (.a (.v 0) (.v 5)) (.v 2)) (.a (.v 3) (.v 4)))] (by kernel_rfl) hz pr)⟩⟩
end
def HiL (a b:Array Keyed) (st:SortSt) (p:Nat) (out:Array Keyed) (na nb:Nat) (st':SortSt):Prop:=Gs st st'/\HiI a b p out na nb
noncomputable def HiQ {γ:Type} (a b:Array Keyed) (st:SortSt) (p:Nat):ForInStep (Option (Array Keyed) × Nat × Nat × Array Keyed × γ)->SortSt->Prop
 | .done c',st'=>LoE a b st c'.1 st'\/(c'.1=none/\HiL a b st p c'.2.2.2.1 c'.2.1 c'.2.2.1 st')
 | .yield c',st'=>c'.1=none/\HiL a b st p c'.2.2.2.1 c'.2.1 c'.2.2.1 st'
theorem znz (hC:Ask prog w A s κ Lt a₀) {st:SortSt} {a b:Array Keyed} {Q:Array Keyed->SortSt->Prop} (hk:kindOf st=κ) (T:Two a₀ a b) (h:∀ res st',Gs st st'->zg3 a b res->Q res st') :
  wpS (model prog w) A E s (zk0 a b) Q st:=by
 have getA:∀ {i},i<a.size->∃ x,a[i]?=some x/\x∈a₀.toList:=zj1 T.ma
 have getB:∀ {i},i<b.size->∃ x,b[i]?=some x/\x∈a₀.toList:=zj1 T.mb
 unfold zk0
 refine wpS_bind (wpS_lift (wpAny_rule ⟨rfl,?_⟩))
 extract_lets -underBinder -merge +onlyGivenNames total done firstOfB na nb
 obtain ⟨z0,hz0,mz0⟩:=getA (i:=a.size - 1) (Nat.pred_lt (Nat.ne_of_gt T.a0))
 refine wpS_bind (zaw hz0 ?_)
 extract_lets -underBinder -merge +onlyGivenNames out
 have M0:MJ a b #[z0] (a.size - 1) b.size:=MJ.pushA (out:=#[]) (na:=a.size) (by simp [MJ]) T.a0 hz0
 by_cases e1:a.size - 1=0
 ·refine za0 (show (na == 0)=true from beq_iff_eq.mpr e1) ?_
  exact wpS_pure (h _ _ .refl (M0.done))
 refine zav (show ¬ (na == 0)=true from fun q=>e1 (beq_iff_eq.mp q)) ?_
 by_cases e2:b.size=1
 ·refine za0 (show (nb == 1)=true from beq_iff_eq.mpr e2) ?_
  exact wpS_pure (h _ _ .refl (M0.first))
 refine zav (show ¬ (nb == 1)=true from fun q=>e2 (beq_iff_eq.mp q)) ?_
 refine wpS_bind (wpS_get ?_)
 extract_lets -underBinder -merge +onlyGivenNames mg
 have htot:total=a.size+b.size:=rfl
 refine wpS_bind (wpS_mono (wpS_forRange (I:=fun x c st'=>c.1=none/\HiL a b st (x+1) c.2.2.2.1 c.2.1 c.2.2.1 st') (Q:=fun c st'=>LoE a b st c.1 st') ?_ ?_ ?_) ?_)
 ·rintro x c st' _ hx ⟨_,hG,I⟩
  extract_lets -underBinder -merge +onlyGivenNames u1 n1 u2 m1 u3 o1 mg1 ac bc
  replace I:HiI a b (x+1) o1 n1 m1:=I
  clear_value o1 n1 m1 mg1 ac bc
  refine wpS_bind (wpS_mono (wpS_forRange (I:=fun x1 c st''=>c.1=none/\HiL a b st (x+1+x1) c.2.2.2.1 c.2.1 c.2.2.1 st'')
   (Q:=fun c st''=>LoE a b st c.1 st''\/(c.1=none/\HiL a b st (x+2) c.2.2.2.1 c.2.1 c.2.2.1 st'')) ?_ ?_ ⟨rfl,hG,I⟩) ?_)
  ·rintro x1 c1 st'' _ hx1 ⟨_,hG,I⟩
   extract_lets -underBinder -merge +onlyGivenNames v1 n2 v2 m2 v3 o2 v4 ac2 bc2
   replace I:HiI a b (x+1+x1) o2 n2 m2:=I
   clear_value o2 n2 m2 ac2 bc2
   refine zs6 hC (hG.kind.trans hk) T.mb T.ma I.b1 I.a1 fun y z bw hy hz=>zke bw ?_ ?_
   ·skip
    extract_lets -underBinder -merge +onlyGivenNames n3
    refine wpS_bind (zaw hz ?_)
    have P:=I.pushA hz
    extract_lets -underBinder -merge +onlyGivenNames o3 ac3 bc3
    by_cases e:n2 - 1=0
    ·refine za0 (show (n3 == 0)=true from beq_iff_eq.mpr e) ?_
     exact wpS_pure (.inl ⟨_,rfl,P.1 e,hG⟩)
    ·refine zav (show ¬ (n3 == 0)=true from fun q=>e (beq_iff_eq.mp q)) ?_
     split
     ·exact wpS_pure (.inr ⟨rfl,hG,(P.2 e).le (by exact Ar.l02 (.le (.a (.v 0) (.k 2)) (.a (.a (.a (.v 0) (.k 1)) (.v 1)) (.k 1))) [] (by kernel_rfl))⟩)
     ·exact wpS_pure ⟨rfl,hG,P.2 e⟩
   ·skip
    extract_lets -underBinder -merge +onlyGivenNames m3
    refine wpS_bind (zaw hy ?_)
    have P:=I.pushB hy
    extract_lets -underBinder -merge +onlyGivenNames o3 bc3 ac3
    by_cases e:m2 - 1=1
    ·refine za0 (show (m3 == 1)=true from beq_iff_eq.mpr e) ?_
     exact wpS_pure (.inl ⟨_,rfl,P.1 e,hG⟩)
    ·refine zav (show ¬ (m3 == 1)=true from fun q=>e (beq_iff_eq.mp q)) ?_
     split
     ·exact wpS_pure (.inr ⟨rfl,hG,(P.2 e).le (by exact Ar.l02 (.le (.a (.v 0) (.k 2)) (.a (.a (.a (.v 0) (.k 1)) (.v 1)) (.k 1))) [] (by kernel_rfl))⟩)
     ·exact wpS_pure ⟨rfl,hG,P.2 e⟩
  ·rintro c st' ⟨_,_,I⟩
   exact (z4h htot I.n1 I.pr).elim
  ·rintro c1 st'' hor
   extract_lets -underBinder -merge +onlyGivenNames cr v1 n2 v2 m2 v3 o2 v4 ac2 bc2
   rcases hor with ⟨res,hc,hF,hG⟩ | ⟨hc,hG,I⟩
   ·have hcr:cr=some res:=hc
    clear_value cr
    subst hcr
    exact wpS_pure ⟨res,rfl,hF,hG⟩
   ·have hcr:cr=none:=hc
    replace I:HiI a b (x+2) o2 n2 m2:=I
    clear_value cr o2 n2 m2 ac2 bc2
    subst hcr
    refine wpS_bind (wpS_lift (wpAny_rule ⟨rfl,?_⟩))
    extract_lets -underBinder -merge +onlyGivenNames mg2
    refine wpS_bind (wpS_mono (wpS_forRange (I:=fun z1 c st3=>c.1=none/\HiL a b st (x+2) c.2.2.2.1 c.2.1 c.2.2.1 st3)
     (Q:=fun c st3=>LoE a b st c.1 st3\/(c.1=none/\HiL a b st (x+2) c.2.2.2.1 c.2.1 c.2.2.1 st3)) ?_ (fun z1 z2 q=>.inr q) ⟨rfl,hG,I⟩) ?_)
    ·rintro x2 c2 st3 _ _ ⟨_,hG,I⟩
     extract_lets -underBinder -merge +onlyGivenNames w1 n3 w2 m3 w3 o3 w4 mg3 w5 ac3 bc3 jp
     replace I:HiI a b (x+2) o3 n3 m3:=I
     have H:∀ g,wpS (model prog w) A E s (jp () g) (HiQ a b st (x+2)) st3:=by
      intro g
      clear_value o3 n3 m3 ac3 bc3
      refine wpS_bind (wpS_modify ?_)
      have hG4:=hG.gal g
      refine zdo T.mb I.b1 fun y hy my=>wpS_bind ?_
      refine (zkd hC (hG4.kind.trans hk) my T.ma (by rw [Nat.zero_add];exact I.n3) (Nat.pred_lt (Nat.ne_of_gt I.n1)) ?_)
      intro k hk1
      have P:=I.takeA (k:=k) hk1
      dsimp -zeta -zetaHave -zetaUnused only
      extract_lets -underBinder -merge +onlyGivenNames k' ac4 jp2
      have H2:∀ n o,HiI a b (x+2) o n m3->wpS (model prog w) A E s (jp2 () n o) (HiQ a b st (x+2)) (SortSt.mk' (kindOf st3) (arrOf st3) (pendingOf st3) g (failedOf st3)):=by
       clear P I
       intro n o I
       clear_value ac4
       refine wpS_bind (zaw hy ?_)
       have P:=I.pushB hy
       extract_lets -underBinder -merge +onlyGivenNames o5
       by_cases e:m3 - 1=1
       ·refine za0 (show (m3 - 1 == 1)=true from beq_iff_eq.mpr e) ?_
        exact wpS_pure (.inl ⟨_,rfl,P.1 e,hG4⟩)
       ·refine zav (show ¬ (m3 - 1 == 1)=true from fun q=>e (beq_iff_eq.mp q)) ?_
        replace P:HiI a b (x+3) o5 n (m3 - 1):=P.2 e
        clear_value o5
        refine zdo T.ma P.a1 fun z hz mz=>wpS_bind ?_
        refine (zkd hC (hG4.kind.trans hk) mz T.mb (by rw [Nat.zero_add];exact P.n4) (Nat.pred_lt (Nat.ne_of_gt (Nat.lt_trans Nat.zero_lt_one P.n2))) ?_)
        intro k1 hk1
        have P2:=P.takeB (k:=k1) hk1
        dsimp -zeta -zetaHave -zetaUnused only
        extract_lets -underBinder -merge +onlyGivenNames k1' bc4 jp3
        have H3:∀ q o,HiI a b (x+3) o n q->wpS (model prog w) A E s (jp3 () q o) (HiQ a b st (x+2)) (SortSt.mk' (kindOf st3) (arrOf st3) (pendingOf st3) g (failedOf st3)):=by
         clear P2 P
         intro q o P
         refine wpS_bind (zaw hz ?_)
         have P2:=P.pushA hz
         extract_lets -underBinder -merge +onlyGivenNames o6
         by_cases e:n - 1=0
         ·refine za0 (show (n - 1 == 0)=true from beq_iff_eq.mpr e) ?_
          exact wpS_pure (.inl ⟨_,rfl,P2.1 e,hG4⟩)
         ·refine zav (show ¬ (n - 1 == 0)=true from fun q=>e (beq_iff_eq.mp q)) ?_
          split
          ·exact wpS_pure (.inr ⟨rfl,hG4,(P2.2 e).le (by exact Ar.l01 (.le (.a (.v 0) (.k 2)) (.a (.a (.v 0) (.k 3)) (.k 1))) [] (by kernel_rfl))⟩)
          ·exact wpS_pure ⟨rfl,hG4,(P2.2 e).le (by exact Ar.l01 (.le (.a (.v 0) (.k 2)) (.a (.a (.v 0) (.k 3)) (.k 1))) [] (by kernel_rfl))⟩
        clear_value jp3
        by_cases e4:m3 - 1 - k1 > 0
        ·refine za0 e4 ?_
         extract_lets -underBinder -merge +onlyGivenNames o7 m7
         by_cases e5:k1=1
         ·refine za0 (show (m7 == 1)=true from beq_iff_eq.mpr e5) ?_
          exact wpS_pure (.inl ⟨_,rfl,P2.1 e5,hG4⟩)
         ·refine zav (show ¬ (m7 == 1)=true from fun q=>e5 (beq_iff_eq.mp q)) ?_
          by_cases e6:k1=0
          ·refine za0 (show (m7 == 0)=true from beq_iff_eq.mpr e6) ?_
           exact wpS_pure (.inl ⟨_,rfl,P2.2.1 e6,hG4⟩)
          ·refine zav (show ¬ (m7 == 0)=true from fun q=>e6 (beq_iff_eq.mp q)) ?_
           exact H3 _ _ (P2.2.2 e5 e6)
        ·refine zav e4 ?_
         exact H3 _ _ P
      clear_value jp2
      by_cases e4:n3 - k > 0
      ·refine za0 e4 ?_
       extract_lets -underBinder -merge +onlyGivenNames o7 n7
       by_cases e5:k=0
       ·refine za0 (show (n7 == 0)=true from beq_iff_eq.mpr e5) ?_
        exact wpS_pure (.inl ⟨_,rfl,P.1 e5,hG4⟩)
       ·refine zav (show ¬ (n7 == 0)=true from fun q=>e5 (beq_iff_eq.mp q)) ?_
        exact H2 _ _ (P.2 e5)
      ·refine zav e4 ?_
       exact H2 _ _ I
     clear_value jp
     split
     ·exact wpS_mono (H (mg3 - 1)) fun r' st' q=>by cases r' <;> exact q
     ·exact wpS_mono (H mg3) fun r' st' q=>by cases r' <;> exact q
    ·rintro c2 st3 hor
     extract_lets -underBinder -merge +onlyGivenNames cr w1 n3 w2 m3 w3 o3 w4 mg3
     rcases hor with ⟨res,hc,hF,hG⟩ | ⟨hc,hG,I⟩
     ·have hcr:cr=some res:=hc
      clear_value cr
      subst hcr
      exact wpS_pure ⟨res,rfl,hF,hG⟩
     ·have hcr:cr=none:=hc
      clear_value cr
      subst hcr
      exact wpS_bind (wpS_modify (wpS_pure ⟨rfl,hG.gal _,I⟩))
 ·rintro c st' ⟨_,_,I⟩
  exact (z4h (y:=1) htot I.n1 (by rw [Nat.add_comm 1];exact I.pr)).elim
 ·exact ⟨rfl,.refl,M0,Nat.pos_of_ne_zero e1,by have:=T.b0;show 1<b.size;(exact Ar.l01 (.lt (.k 1) (.v 0)) [(.no (.eq (.v 0) (.k 1))),(.lt (.k 0) (.v 0))] (by kernel_rfl) e2 this),Nat.sub_le _ _,Nat.le_refl _,by have:=T.a0;show a.size - 1+b.size+(0+1)<=_;(exact Ar.l02 (.le (.a (.a (.s (.v 0) (.k 1)) (.v 1)) (.a (.k 0) (.k 1))) (.a (.v 0) (.v 1))) [(.no (.eq (.s (.v 0) (.k 1)) (.k 0)))] (by kernel_rfl) e1)⟩
 ·rintro c st' ⟨res,hc,hF,hG⟩
  extract_lets -underBinder -merge +onlyGivenNames cr
  have hcr:cr=some res:=hc
  clear_value cr
  subst hcr
  exact wpS_pure (h res st' hG hF)
end Tim
end Mine
end
section
namespace Mine
namespace Tim
open PySem PyProof.Rows
variable {prog:Program} {w:World} {A:Around} {E:Value->Shared->Prop} {s:Shared} {κ:SortKind} {Lt:Keyed->Keyed->Prop} {a₀:Array Keyed}
theorem lay (o:Nat) (l:List Keyed):∀ (seg:List Keyed) (j:Nat) (pre post:List Keyed),seg.length=l.length->pre.length=o+j->
  (l.zipIdx j).foldl (fun a x=>a.setIfInBounds (o+x.2) x.1) (pre++(seg++post)).toArray=(pre++(l++post)).toArray:=by
 induction l with
 | nil=>intro seg j pre post h _;rw [List.eq_nil_of_length_eq_zero h];rfl
 | cons p l ih=>
  intro seg j pre post h hp
  cases seg with
  | nil=>cases h
  | cons x seg=>
   have e:=ih seg (j+1) (pre++[p]) post (Nat.succ.inj h) (by rw [List.length_append,hp];rfl)
   rw [List.append_assoc,List.append_assoc] at e
   rw [List.zipIdx_cons,List.foldl_cons]
   refine Eq.trans (congrArg (fun a=>List.foldl _ a _) ?_) e
   rw [List.setIfInBounds_toArray,← hp,List.set_append_right _ _ (Nat.le_refl _),Nat.sub_self];rfl
theorem laid {xs ys res:Array Keyed} {l m e:Nat} (hy:ys=xs) (hF:zg3 (xs.extract l m) (xs.extract m e) res) (h1:l<=m) (h2:m<=e) (h3:e<=xs.size) :
  (res.toList.zipIdx.foldl (fun a x=>a.setIfInBounds (l+x.2) x.1) ys).Perm xs:=by
 unfold zg3 at hF
 rw [hy]
 have d:xs.toList.drop m=(xs.toList.drop l).drop (m - l):=by rw [List.drop_drop,Nat.add_sub_of_le h1]
 rw [zan,zan,d,zkg] at hF
 have z:(xs.toList.take l).length=l:=by rw [List.length_take,Array.length_toList];exact Nat.min_eq_left (Nat.le_trans h1 (Nat.le_trans h2 h3))
 have q:xs=(xs.toList.take l++((xs.toList.drop l).take (m - l+(e - m))++(xs.toList.drop l).drop (m - l+(e - m)))).toArray:=by
  rw [List.take_append_drop,List.take_append_drop]
 have k:=lay l res.toList _ 0 (xs.toList.take l) ((xs.toList.drop l).drop (m - l+(e - m))) hF.length_eq.symm z
 rw [← q] at k
 rw [k]
 refine Array.perm_iff_toList_perm.mpr ?_
 refine ((hF.append_right _).append_left _).trans ?_
 rw [List.take_append_drop,List.take_append_drop]
theorem z0x {M:Model} {σ:Type} {x:σ} {Q:PUnit->σ->Prop} {st:σ} (h:Q ⟨⟩ x):wpS M A E s (set x:StateT σ Sem PUnit) Q st:=by
 unfold wpS;rw [StateT.run_set];exact wpAny_pure ⟨rfl,h⟩
theorem zs5 {α:Type} (hC:Ask prog w A s κ Lt a₀) {c:Prop} [Decidable c] {st:SortSt} {a b:Array Keyed} {f:Array Keyed->StateT SortSt Sem α} {Q:α->SortSt->Prop} (hk:kindOf st=κ) (T:Two a₀ a b) (h:∀ res st',Gs st st'->zg3 a b res->wpS (model prog w) A E s (f res) Q st') :
  wpS (model prog w) A E s (if c then zkz a b >>= f else zk0 a b >>= f) Q st:=by
 by_cases q:c
 ·exact za0 q (wpS_bind (zny hC hk T h))
 ·exact zav q (wpS_bind (znz hC hk T h))
theorem zn0 (hC:Ask prog w A s κ Lt a₀) {st:SortSt} {i sa na pa sb nb pb:Nat} {Q:Bool->SortSt->Prop} (hB:TB κ a₀ st) (hp1:(pendingOf st)[i]?=some (sa,na,pa)) (hp2:(pendingOf st)[i+1]?=some (sb,nb,pb))
  (hsb:sb=sa+na) (hna:0<na) (hnb:0<nb) (hsz:sb+nb<=a₀.size)
  (h:∀ st',TB κ a₀ st'->pendingOf st'=((pendingOf st).setIfInBounds i (sa,na+nb,pa)).eraseIdxIfInBounds (i+1)->Q true st') :
  wpS (model prog w) A E s (mergeAt' i) Q st:=by
 unfold mergeAt'
 refine wpS_bind (wpS_get ?_)
 dsimp only
 rw [show (sortPriv% PySem.Builtin.SortState.pending) st=pendingOf st from rfl,hp1,hp2]
 dsimp only
 refine wpS_bind (z0x ?_)
 have hB1:TB κ a₀ (SortSt.mk' (kindOf st) (arrOf st) (((pendingOf st).setIfInBounds i (sa,na+nb,pa)).eraseIdxIfInBounds (i+1)) (gallopOf st) (failedOf st)):=⟨hB.perm,hB.kind,hB.failed⟩
 obtain ⟨y,hy,my⟩:=hB.at (i:=sb) (by exact Ar.l03 (.lt (.v 0) (.v 1)) [(.lt (.k 0) (.v 2)),(.le (.a (.v 0) (.v 2)) (.v 1))] (by kernel_rfl) hnb hsz)
 refine wpS_bind (zaw hy ?_)
 refine wpS_bind (zfa hC hB1.kind my (fun q hq=>hB.at (by exact Ar.l06 (.lt (.a (.v 0) (.v 1)) (.v 2)) [(.eq (.v 3) (.a (.v 0) (.v 4))),(.le (.a (.v 3) (.v 5)) (.v 2)),(.lt (.v 1) (.v 4))] (by kernel_rfl) hsb hsz hq)) hna fun k hk=>?_)
 dsimp only
 by_cases e1:na - k=0
 ·exact za0 (beq_iff_eq.mpr e1) (wpS_pure (h _ hB1 rfl))
 ·refine zav (fun q=>e1 (beq_iff_eq.mp q)) ?_
  obtain ⟨z,hz,mz⟩:=hB.at (i:=sa+k+(na - k) - 1) (by exact Ar.l06 (.lt (.s (.a (.a (.v 0) (.v 1)) (.s (.v 2) (.v 1))) (.k 1)) (.v 3)) [(.eq (.v 4) (.a (.v 0) (.v 2))),(.le (.a (.v 4) (.v 5)) (.v 3)),(.no (.eq (.s (.v 2) (.v 1)) (.k 0)))] (by kernel_rfl) hsb hsz e1)
  refine wpS_bind (zaw hz ?_)
  refine wpS_bind (zfa hC hB1.kind mz (fun q hq=>hB.at (by exact Ar.l04 (.lt (.a (.v 0) (.v 1)) (.v 2)) [(.le (.a (.v 0) (.v 3)) (.v 2)),(.lt (.v 1) (.v 3))] (by kernel_rfl) hsz hq)) (by exact Ar.l01 (.lt (.s (.v 0) (.k 1)) (.v 0)) [(.lt (.k 0) (.v 0))] (by kernel_rfl) hnb) fun k1 hk1=>?_)
  dsimp only
  by_cases e2:k1=0
  ·exact za0 (beq_iff_eq.mpr e2) (wpS_pure (h _ hB1 rfl))
  ·refine zav (fun q=>e2 (beq_iff_eq.mp q)) ?_
   have hs:=hB.size
   have sub:∀ (p q:Nat),∀ x∈((arrOf st).extract p q).toList,x∈a₀.toList:=fun p q x hx=>by
    rw [zan] at hx
    exact hB.mem.mp (List.mem_of_mem_drop (List.mem_of_mem_take hx))
   have hsbk:sa+k<sb:=hsb ▸ Nat.add_lt_add_left (Nat.lt_of_sub_ne_zero e1) sa
   have hsbs:sb<(arrOf st).size:=hs ▸ Nat.lt_of_lt_of_le (Nat.lt_add_of_pos_right hnb) hsz
   have T:Two a₀ ((arrOf st).extract (sa+k) sb) ((arrOf st).extract sb (sb+k1)):=⟨sub _ _,sub _ _,by rw [Array.size_extract];exact Nat.sub_pos_of_lt (Nat.lt_min.mpr ⟨hsbk,Nat.lt_trans hsbk hsbs⟩),by rw [Array.size_extract];exact Nat.sub_pos_of_lt (Nat.lt_min.mpr ⟨Nat.lt_add_of_pos_right (Nat.pos_of_ne_zero e2),hsbs⟩)⟩
   refine zs5 (c:=na - k<=k1) hC hB1.kind T fun res st2 hG hF=>?_
   refine wpS_bind (wpS_modify (wpS_bind (wpS_get (wpS_pure ?_))))
   have hf:failedOf st2=none:=hG.failed.trans hB.failed
   show Q (failedOf st2).isNone _
   rw [hf]
   exact h _ ⟨(laid hG.arr hF (by exact Ar.l04 (.le (.a (.v 0) (.v 1)) (.v 2)) [(.eq (.v 2) (.a (.v 0) (.v 3))),(.le (.v 1) (.v 3))] (by kernel_rfl) hsb hk) (by exact Ar.l02 (.le (.v 0) (.a (.v 0) (.v 1))) [] (by kernel_rfl)) (hs ▸ by (exact Ar.l04 (.le (.a (.v 0) (.v 1)) (.v 2)) [(.le (.a (.v 0) (.v 3)) (.v 2)),(.le (.v 1) (.v 3))] (by kernel_rfl) hsz hk1))).trans hB.perm,hG.kind.trans hB.kind,hf⟩ hG.pend
end Tim
end Mine
end
section
namespace Mine
namespace Tim
open PySem PyProof.Rows
variable {prog:Program} {w:World} {A:Around} {E:Value->Shared->Prop} {s:Shared} {κ:SortKind} {Lt:Keyed->Keyed->Prop} {a₀:Array Keyed}
noncomputable def Chain:Nat->List (Nat × Nat × Nat)->Nat->Prop
 | o,[],e=>o=e
 | o,x::t,e=>x.1=o/\1<=x.2.1/\Chain (o+x.2.1) t e
theorem Chain.len {l:List (Nat × Nat × Nat)} {e:Nat}:∀ {o:Nat},Chain o l e->o<=e:=by
 induction l with
 | nil=>exact fun h=>Nat.le_of_eq h
 | cons x t ih=>exact fun h=>Nat.le_trans (Nat.le_add_right _ _) (ih h.2.2)
theorem Chain.app {l l':List (Nat × Nat × Nat)} {m e:Nat} (h':Chain m l' e):∀ {o:Nat},Chain o l m->Chain o (l++l') e:=by
 induction l with
 | nil=>intro o h;have:o=m:=h;subst this;exact h'
 | cons x t ih=>exact fun h=>⟨h.1,h.2.1,ih h.2.2⟩
theorem Chain.cut {l l':List (Nat × Nat × Nat)} {e:Nat}:∀ {o:Nat},Chain o (l++l') e->∃ m,Chain o l m/\Chain m l' e:=by
 induction l with
 | nil=>exact fun h=>⟨_,rfl,h⟩
 | cons x t ih=>exact fun h=>(ih h.2.2).imp fun m k=>⟨⟨h.1,h.2.1,k.1⟩,k.2⟩
theorem zok {α:Type} (f:α->α) (y:α) (l:List α):(l++[y]).modify l.length f=l++[f y]:=by
 induction l with
 | nil=>rfl
 | cons x l ih=>simp [ih]
theorem zxf {α:Type} {l:List α} {i:Nat} (h:i+1<l.length):∃ pre a b post,l=pre++a::b::post/\pre.length=i:=by
 refine ⟨l.take i,l[i],l[i+1],l.drop (i+2),?_,List.length_take_of_le (Nat.le_of_lt (Nat.lt_of_succ_lt h))⟩
 conv=>lhs;rw [← List.take_append_drop i l,List.drop_eq_getElem_cons (by exact Ar.l02 (.lt (.v 0) (.v 1)) [(.lt (.a (.v 0) (.k 1)) (.v 1))] (by kernel_rfl) h),List.drop_eq_getElem_cons (by exact Ar.l02 (.lt (.a (.v 0) (.k 1)) (.v 1)) [(.lt (.a (.v 0) (.k 1)) (.v 1))] (by kernel_rfl) h)]
theorem sz2 {n:Nat} (h:¬ n<=1):n - 2+1<n/\n - 2 - 1+1<n:=by
 have h1:=Nat.not_le.mp h
 have h2:n - 2+1<n:=by
  rw [Nat.sub_add_eq n 1 1,Nat.sub_add_cancel (Nat.sub_pos_of_lt h1)]
  exact Nat.sub_lt (Nat.lt_trans Nat.one_pos h1) Nat.one_pos
 exact ⟨h2,Nat.lt_of_le_of_lt (Nat.add_le_add_right (Nat.sub_le _ _) 1) h2⟩
theorem zuu:∀ (f n r:Nat),r<=1->minRun' f n r<=n+r:=by
 intro f
 induction f with
 | zero=>exact fun n r z1=>Nat.le_refl _
 | succ f ih=>
  intro n r hr
  rw [minRun'_succ]
  by_cases q:n<64
  ·rw [if_pos q];exact Nat.le_refl _
  ·rw [if_neg q]
   have:=ih (n / 2) (max r (n % 2)) (Nat.max_le.mpr ⟨hr,Nat.le_of_lt_succ (Nat.mod_lt n (by decide))⟩)
   exact Nat.le_trans this (Nat.le_trans (Nat.add_le_add_left (Nat.max_le.mpr ⟨hr,Nat.le_of_lt_succ (Nat.mod_lt n (by decide))⟩) _) (Nat.le_trans (Nat.div_lt_self (Nat.lt_of_lt_of_le (by decide) (Nat.not_lt.mp q)) (by decide)) (Nat.le_add_right n r)))
theorem zjg (hC:Ask prog w A s κ Lt a₀) {st:SortSt} {i e:Nat} {Q:Bool->SortSt->Prop} (hB:TB κ a₀ st) (hch:Chain 0 (pendingOf st).toList e) (he:e<=a₀.size) (hi:i+1<(pendingOf st).size)
  (h:∀ st',TB κ a₀ st'->Chain 0 (pendingOf st').toList e->Q true st') :
  wpS (model prog w) A E s (mergeAt' i) Q st:=by
 obtain ⟨pre,⟨sa,na,pa⟩,⟨sb,nb,pb⟩,post,hl,hlen⟩:=zxf (l:=(pendingOf st).toList) (i:=i) (by simpa using hi)
 rw [hl] at hch
 obtain ⟨m,c1,rfl,d2,d4,d5,d7⟩:=hch.cut
 dsimp only at d2 d4 d5 d7
 have hle:=d7.len
 have g1:(pendingOf st)[i]?=some (sa,na,pa):=by
  rw [← Array.getElem?_toList,hl,List.getElem?_append_right (Nat.le_of_eq hlen),hlen];simp
 have g2:(pendingOf st)[i+1]?=some (sb,nb,pb):=by
  rw [← Array.getElem?_toList,hl,List.getElem?_append_right (show pre.length<=i+1 from Nat.le_succ_of_le (Nat.le_of_eq hlen)),hlen,Nat.add_sub_cancel_left];simp
 refine zn0 hC hB g1 g2 d4 d2 d5 (by exact Ar.l06 (.le (.a (.v 0) (.v 1)) (.v 2)) [(.le (.v 3) (.v 2)),(.eq (.v 0) (.a (.v 4) (.v 5))),(.le (.a (.a (.v 4) (.v 5)) (.v 1)) (.v 3))] (by kernel_rfl) he d4 hle) fun st' hB' hp'=>h st' hB' ?_
 have hpl:(pendingOf st').toList=pre++(sa,na+nb,pa)::post:=by
  rw [hp',Array.toList_eraseIdxIfInBounds,Array.toList_setIfInBounds,hl,← hlen]
  rw [List.set_append_right _ _ (Nat.le_refl _),Nat.sub_self,List.set_cons_zero,List.eraseIdx_append_of_length_le (show pre.length<=pre.length+1 from Nat.le_succ _),Nat.add_sub_cancel_left]
  rfl
 rw [hpl]
 refine Chain.app ?_ c1
 exact ⟨rfl,Nat.le_trans d2 (Nat.le_add_right _ _),by dsimp only;rw [← Nat.add_assoc];exact d7⟩
structure SI (Lt:Keyed->Keyed->Prop) (κ:SortKind) (a₀:Array Keyed) (lo:Nat) (st:SortSt):Prop where
 tb:TB κ a₀ st
 ch:Chain 0 (pendingOf st).toList lo
 le:lo<=a₀.size
 ri:Ris Lt a₀ 0 a₀.size->arrOf st=a₀/\(lo<a₀.size->lo=0/\pendingOf st=#[])/\(pendingOf st).size<=1
theorem SI.push {lo n:Nat} {st:SortSt} (hB:TB κ a₀ st) (hch:Chain 0 (pendingOf st).toList lo) (hn1:1<=n) (hn2:lo+n<=a₀.size) (hR:Ris Lt a₀ 0 a₀.size->arrOf st=a₀/\pendingOf st=#[]/\lo+n=a₀.size) :
  SI Lt κ a₀ (lo+n) (setPending st ((pendingOf st).push (lo,n,0))):=by
 refine ⟨⟨hB.perm,hB.kind,hB.failed⟩,?_,hn2,fun r=>?_⟩
 ·show Chain 0 ((pendingOf st).push (lo,n,0)).toList (lo+n)
  rw [Array.toList_push]
  refine Chain.app ?_ hch
  exact ⟨rfl,hn1,rfl⟩
 ·obtain ⟨q1,q2,q3⟩:=hR r
  refine ⟨q1,fun k=>absurd q3 (Nat.ne_of_lt k),?_⟩
  show ((pendingOf st).push (lo,n,0)).size<=1
  rw [q2];exact Nat.le_refl _
theorem Chain.power {p:Array (Nat × Nat × Nat)} {lo pw:Nat} (h:Chain 0 p.toList lo):Chain 0 (p.modify (p.size - 1) fun x=>(x.1,x.2.1,pw)).toList lo:=by
 rw [Array.toList_modify]
 rcases List.eq_nil_or_concat p.toList with q | ⟨l,y,q⟩
 ·rw [q] at h ⊢;simpa using h
 ·have hz:p.size=l.length+1:=by rw [← Array.length_toList,q];simp
  rw [q,List.concat_eq_append] at h
  rw [q,hz,Nat.add_sub_cancel,List.concat_eq_append,zok]
  obtain ⟨m,h1,h2⟩:=h.cut
  exact Chain.app (l':=[(y.1,y.2.1,pw)]) h2 h1
theorem zlw (hC:Ask prog w A s κ Lt a₀) {st:SortSt} {Q:Unit->SortSt->Prop} (hB:TB κ a₀ st) (hp:pendingOf st=#[]) (ha:arrOf st=a₀)
  (h:∀ st',TB κ a₀ st'->(Ris Lt a₀ 0 a₀.size->arrOf st'=a₀)->Q () st'):wpS (model prog w) A E s sortRuns' Q st:=by
 rw [sortRuns'_eq]
 refine wpS_bind (wpS_get ?_)
 extract_lets -underBinder -merge +onlyGivenNames size mr
 have hsize:size=a₀.size:=hB.size
 have hmr:mr<=size:=zuu _ _ 0 (Nat.zero_le _)
 clear_value mr size
 subst hsize
 refine wpS_bind (wpS_mono (wpS_forRange
  (I:=fun x c st'=>∃ lo,c=(none,lo)/\SI Lt κ a₀ lo st'/\x<=lo)
  (Q:=fun c st'=>c=(none,a₀.size)/\SI Lt κ a₀ a₀.size st') ?_ ?_ ?_) ?_)
 ·rintro x c st' _ hx ⟨lo,rfl,S,hxl⟩
  extract_lets -underBinder -merge +onlyGivenNames lo'
  have hlo':lo'=lo:=rfl
  clear_value lo'
  subst hlo'
  by_cases hge:lo' ≥ a₀.size
  ·refine za0 hge ?_
   have e:lo'=a₀.size:=Nat.le_antisymm S.le hge
   subst e
   exact wpS_pure ⟨rfl,S⟩
  ·refine zav hge ?_
   have hlt:=Nat.lt_of_not_le hge
   refine wpS_bind (zlx hC S.tb (by exact Ar.l02 (.le (.a (.v 0) (.s (.v 1) (.v 0))) (.v 1)) [(.no (.le (.v 1) (.v 0)))] (by kernel_rfl) hge) (by exact Ar.l02 (.le (.k 1) (.s (.v 0) (.v 1))) [(.no (.le (.v 0) (.v 1)))] (by kernel_rfl) hge) fun n st2 hN2 hn1 hn2 hR=>?_)
   have hR':Ris Lt a₀ 0 a₀.size->arrOf st2=a₀/\pendingOf st2=#[]/\lo'+n=a₀.size:=fun r=>by
    obtain ⟨q1,q2,_⟩:=S.ri r
    obtain ⟨q3,q4⟩:=q2 hlt
    obtain ⟨k1,k2⟩:=hR (by rw [q1,q3];exact r)
    rw [k2];exact ⟨q1,q4,by (exact Ar.l03 (.eq (.a (.v 0) (.v 1)) (.v 2)) [(.no (.le (.v 2) (.v 0))),(.eq (.v 1) (.s (.v 2) (.v 0)))] (by kernel_rfl) hge k1)⟩
   clear hR
   dsimp -zeta -zetaHave -zetaUnused only
   extract_lets -underBinder -merge +onlyGivenNames n' jp
   have H:∀ u n st3 (P:_->SortSt->Prop),Nx κ a₀ st' st3->1<=n->lo'+n<=a₀.size->(Ris Lt a₀ 0 a₀.size->arrOf st3=a₀/\pendingOf st3=#[]/\lo'+n=a₀.size)->(∀ st4,SI Lt κ a₀ (lo'+n) st4->P (.yield (none,lo'+n)) st4)->wpS (model prog w) A E s (jp u n) P st3:=by
    clear hR' hn2 hn1 hN2 n' n
    intro u n st3 P hN3 hn1 hn2 hR hP
    have hch3:Chain 0 (pendingOf st3).toList lo':=by rw [hN3.pend];exact S.ch
    refine wpS_bind (wpS_get ?_)
    extract_lets -underBinder -merge +onlyGivenNames jp2
    have H2:∀ u st9,TB κ a₀ st9->Chain 0 (pendingOf st9).toList lo'->(Ris Lt a₀ 0 a₀.size->arrOf st9=a₀/\pendingOf st9=#[]/\lo'+n=a₀.size)->wpS (model prog w) A E s (jp2 u) P st9:=by
     intro u st9 hB9 hch9 hR9
     exact wpS_bind (wpS_modify (wpS_pure (hP _ (SI.push hB9 hch9 hn1 hn2 hR9))))
    clear_value jp2
    cases hbk:(pendingOf st3).back? with
    | none=>exact H2 _ _ hN3.tb hch3 hR
    | some x=>
     obtain ⟨s1,n1,q1⟩:=x
     have no:∀ {c:Prop},Ris Lt a₀ 0 a₀.size->c:=fun r=>by
      rw [(hR r).2.1] at hbk;cases hbk
     dsimp -zeta -zetaHave -zetaUnused only
     extract_lets -underBinder -merge +onlyGivenNames pw
     clear_value pw
     refine wpS_bind (wpS_mono (wpS_forRange (I:=fun z1 c st4=>c=(none,())/\TB κ a₀ st4/\Chain 0 (pendingOf st4).toList lo')
      (Q:=fun c st4=>c=(none,())/\TB κ a₀ st4/\Chain 0 (pendingOf st4).toList lo') ?_ (fun z1 z2 q=>q) ⟨rfl,hN3.tb,hch3⟩) ?_)
     ·rintro x c st4 _ _ ⟨rfl,hB4,hch4⟩
      refine wpS_bind (wpS_get ?_)
      (try dsimp only)
      by_cases hs1:(pendingOf st4).size > 1
      ·rw [if_pos hs1]
       obtain ⟨⟨u1,u2,older⟩,hu⟩:∃ u,(pendingOf st4)[(pendingOf st4).size - 2]?=some u:=⟨_,getElem?_pos _ _ (by exact Ar.l01 (.lt (.s (.v 0) (.k 2)) (.v 0)) [(.lt (.k 1) (.v 0))] (by kernel_rfl) hs1)⟩
       rw [hu]
       dsimp only
       by_cases hold:older<=pw
       ·exact za0 hold (wpS_pure ⟨rfl,hB4,hch4⟩)
       ·refine zav hold ?_
        refine wpS_bind (zjg hC hB4 hch4 S.le (by exact Ar.l01 (.lt (.a (.s (.v 0) (.k 2)) (.k 1)) (.v 0)) [(.lt (.k 1) (.v 0))] (by kernel_rfl) hs1) fun st5 hB5 hch5=>?_)
        exact zav Bool.false_ne_true (wpS_pure ⟨rfl,hB5,hch5⟩)
      ·rw [if_neg hs1]
       exact wpS_pure ⟨rfl,hB4,hch4⟩
     ·rintro c st4 ⟨rfl,hB4,hch4⟩
      exact wpS_bind (wpS_modify (H2 _ _ ⟨hB4.perm,hB4.kind,hB4.failed⟩ hch4.power no))
   clear_value jp
   have hnn:n'=n:=rfl
   clear_value n'
   subst hnn
   by_cases hlt2:n'<mr
   ·refine za0 hlt2 ?_
    refine wpS_bind (wpS_lift (wpAny_rule ⟨rfl,?_⟩))
    extract_lets -underBinder -merge +onlyGivenNames force
    refine wpS_bind (zim hC (show lo'+min (a₀.size - lo') mr<=a₀.size from Nat.le_trans (Nat.add_le_add_left (Nat.min_le_left _ _) lo') (Nat.le_of_eq (Nat.add_sub_cancel' (Nat.le_of_lt hlt)))) hN2.tb fun st3 hN23=>?_)
    refine zav Bool.false_ne_true ?_
    have hf1:1<=force:=Nat.le_min.mpr ⟨Nat.le_trans hn1 hn2,Nat.le_trans hn1 (Nat.le_of_lt hlt2)⟩
    refine H _ _ _ _ ⟨hN23.tb,hN23.pend.trans hN2.pend⟩ hf1 (Nat.le_trans (Nat.add_le_add_left (Nat.min_le_left _ _) lo') (Nat.le_of_eq (Nat.add_sub_cancel' (Nat.le_of_lt hlt)))) (fun r=>?_) fun st4 hS=>⟨_,rfl,hS,Nat.add_le_add hxl hf1⟩
    have q:=S.ri r
    have q2:=q.2.1 hlt
    have:=hR' r
    exact absurd (Nat.lt_of_lt_of_le hlt2 hmr) (by rw [← this.2.2,q2.1,Nat.zero_add];exact Nat.lt_irrefl _)
   ·refine zav hlt2 ?_
    exact H _ _ _ _ hN2 hn1 (by exact Ar.l03 (.le (.a (.v 0) (.v 1)) (.v 2)) [(.no (.le (.v 2) (.v 0))),(.le (.v 1) (.s (.v 2) (.v 0)))] (by kernel_rfl) hge hn2) hR' fun st4 hS=>⟨_,rfl,hS,by (exact Ar.l03 (.le (.a (.v 0) (.k 1)) (.a (.v 1) (.v 2))) [(.le (.v 0) (.v 1)),(.le (.k 1) (.v 2))] (by kernel_rfl) hxl hn1)⟩
 ·rintro c st' ⟨lo,rfl,S,hxl⟩
  have e:lo=a₀.size:=Nat.le_antisymm S.le (Nat.le_trans (Nat.le_max_right 0 _) hxl)
  subst e
  exact ⟨rfl,S⟩
 ·exact ⟨0,rfl,⟨hB,by rw [hp];rfl,Nat.zero_le _,fun z1=>⟨ha,fun z1=>⟨rfl,hp⟩,by rw [hp];exact Nat.zero_le _⟩⟩,Nat.le_refl _⟩
 ·rintro c st' ⟨rfl,S⟩
  dsimp only
  refine wpS_bind (wpS_mono (wpS_forRange (I:=fun x c st''=>c=(none,())/\SI Lt κ a₀ a₀.size st'')
   (Q:=fun c st''=>c=(none,())/\SI Lt κ a₀ a₀.size st'') ?_ (fun z1 z2 q=>q) ⟨rfl,S⟩) ?_)
  ·rintro x c st'' _ hx ⟨rfl,S⟩
   refine wpS_bind (wpS_get ?_)
   (try dsimp only)
   by_cases h1:(pendingOf st'').size<=1
   ·exact za0 h1 (wpS_pure ⟨rfl,S⟩)
   ·refine zav h1 ?_
    refine wpS_bind (zjg hC S.tb S.ch (Nat.le_refl _) ?_ fun st5 hB5 hch5=>?_)
    ·(repeat' split) <;> first | exact (sz2 h1).1 | exact (sz2 h1).2
    ·exact zav Bool.false_ne_true (wpS_pure ⟨rfl,hB5,hch5,Nat.le_refl _,fun r=>absurd (S.ri r).2.2 h1⟩)
  ·rintro c st'' ⟨rfl,S⟩
   exact wpS_pure (h st'' S.tb fun r=>(S.ri r).1)
end Tim
end Mine
end
section
namespace Mine
namespace Tim
open PySem PyProof.Rows
variable {prog:Program} {w:World} {A:Around} {E:Value->Shared->Prop} {s:Shared}
noncomputable def sortLid:Nat:=20000
theorem zrq:sortLid<=16777217:=by decide
theorem line {n:Nat} (h:n<sortLid):n<=sizeLine:=by rw [sizeLine_eq];exact Nat.le_of_lt_succ (Nat.lt_of_lt_of_le h zrq)
def z8r (prog:Program) (w:World) (A:Around) (s:Shared) (κ:SortKind) (Lt:Value->Value->Prop) (vs:List Value):Prop:=
 ∀ x∈vs,∀ y∈vs,∀ (E:Value->Shared->Prop) (Q:Bool->Shared->Prop),(∀ b,(b=true->Lt x y)->Q b s)->wpAny (model prog w) A (keyLt' κ x y) Q E s
structure Out (Lt:Value->Value->Prop) (vs:List Value) (out:Array Value):Prop where
 perm:out.toList.Perm vs
 same:vs.Pairwise (fun a b=>¬ Lt b a)->out=vs.toArray
theorem Out.sz {Lt:Value->Value->Prop} {vs:List Value} {out:Array Value} (h:Out Lt vs out) (hz:vs.length<sortLid):out.size<=sizeLine+1:=by
 rw [← Array.length_toList,h.perm.length_eq];exact Nat.le_succ_of_le (line hz)
theorem znx (vs:List Value):(vs.toArray.zip vs.toArray).map (·.2)=vs.toArray:=by
 apply Array.toList_inj.mp
 rw [Array.toList_map,Array.toList_zip]
 exact List.map_snd_zip (Nat.le_refl _)
theorem zz9 {vs:List Value} {i:Nat} {p:Keyed} (h:(vs.toArray.zip vs.toArray)[i]?=some p):vs[i]?=some p.1:=by
 rw [← Array.getElem?_toList,Array.toList_zip] at h
 exact (List.getElem?_zip_eq_some.mp h).1
theorem zs4 {vs:List Value} {p:Keyed} (h:p∈(vs.toArray.zip vs.toArray).toList):p.1∈vs:=by
 rw [Array.toList_zip] at h
 exact (List.of_mem_zip h).1
theorem ris {Lt:Value->Value->Prop} {vs:List Value} (h:vs.Pairwise (fun a b=>¬ Lt b a)):Ris (fun p q=>Lt p.1 q.1) (vs.toArray.zip vs.toArray) 0 (vs.toArray.zip vs.toArray).size:=by
 intro x h1 _ p q hp hq
 rw [Nat.zero_add] at hp hq
 obtain ⟨k1,e1⟩:=List.getElem?_eq_some_iff.mp (zz9 hp)
 obtain ⟨k2,e2⟩:=List.getElem?_eq_some_iff.mp (zz9 hq)
 have:=List.pairwise_iff_getElem.mp h (x - 1) x k2 k1 (Nat.sub_lt h1 Nat.zero_lt_one)
 rw [e1,e2] at this
 exact this
theorem z7s {Lt:Value->Value->Prop} {vs:List Value} {κ:SortKind} (hC:z8r prog w A s κ Lt vs) :
  wpAny (model prog w) A ((sortRuns').run (SortSt.mk' κ (vs.toArray.zip vs.toArray) #[] 7 none)) (fun x s'=>s'=s/\failedOf x.2=none/\Out Lt vs ((arrOf x.2).map (·.2))) E s:=by
 refine zlw (κ:=κ) (Lt:=fun p q=>Lt p.1 q.1) (st:=SortSt.mk' κ (vs.toArray.zip vs.toArray) #[] 7 none) (a₀:=vs.toArray.zip vs.toArray) (Q:=fun z1 st'=>failedOf st'=none/\Out Lt vs ((arrOf st').map (·.2))) (fun x hx y hy E Q q=>hC _ (zs4 hx) _ (zs4 hy) E Q q) ⟨.refl _,rfl,rfl⟩ rfl rfl fun st' hB hr=>⟨hB.failed,?_,fun h=>?_⟩
 ·have:=(Array.perm_iff_toList_perm.mp hB.perm).map (·.2)
  rw [← Array.toList_map,← Array.toList_map,znx] at this
  exact this
 ·rw [hr (ris h),znx]
theorem zoo {Lt:Value->Value->Prop} {a:Addr} {vs:List Value} {n:Nat} {P:PySem.Fin->Shared->Prop} (ho:s.heap.get? a=some (seqObj "list" vs.toArray n)) (hz:vs.length<sortLid)
  (hask:2<=vs.length->∀ s':Shared,(∀ b o,b≠a->s.heap.get? b=some o->s'.heap.get? b=some o)->∃ κ,(∀ (E:Value->Shared->Prop) (Q:SortKind->Shared->Prop),Q κ s'->wpAny (model prog w) A (keyKind' vs.toArray) Q E s')/\z8r prog w A s' κ Lt vs)
  (h:∀ out:Array Value,Out Lt vs out->P (.done (.ret .none)) { s with heap:=sortedHeap s.heap a vs out }) :
  wpAny (model prog w) A (Builtin.«list.sort» ⟨[.ref a],[]⟩) P E s:=by
 rw [list_sort_plain]
 have ha:a<s.heap.objs.size:=Heap.lt_size ho
 have hz':vs.toArray.size<=sizeLine:=line hz
 refine wpAny_bind (listItems_at ho rfl ?_)
 refine wpAny_bind (listUpdate_at ho rfl ?_ hz' (Nat.zero_le _))
 obtain ⟨e1,ho1⟩:∃ e1,(s.heap.update a (Obj.mapSeq fun z1=>#[])).get? a=some (seqObj "list" #[] e1):=⟨_,get?_update_seq ho (fun z1=>#[])⟩
 refine wpAny_bind (seqEpoch_at ho1 rfl ?_)
 refine wpAny_bind (wpAny_newTuple ?_ (by simpa using hz'))
 refine wpAny_bind (wpAny_newList ?_ (Nat.zero_le _))
 refine wpAny_holding ?_
 have keep:∀ b o,b<s.heap.objs.size->(s.heap.update a (Obj.mapSeq fun z1=>#[])).get? b=some o->(((s.heap.update a (Obj.mapSeq fun z1=>#[])).push (seqObj "tuple" vs.toArray 0)).push (seqObj "list" #[] 0)).get? b=some o:=fun b o hlt e=>by
  rw [Heap.get?_push_ne _ _ _ (by rw [size_push',Heap.size_update];exact Nat.ne_of_lt (Nat.lt_succ_of_lt hlt)),Heap.get?_push_ne _ _ _ (by rw [Heap.size_update];exact Nat.ne_of_lt hlt)]
  exact e
 have ho6:=keep a _ ha ho1
 show wpAny (model prog w) A _ P E { s with heap:=((s.heap.update a (Obj.mapSeq fun z1=>#[])).push (seqObj "tuple" vs.toArray 0)).push (seqObj "list" #[] 0) }
 dsimp only
 by_cases h2:vs.toArray.size<2
 ·have o:Out Lt vs ((vs.toArray.zip vs.toArray).map (·.2)):=by rw [znx];exact ⟨.refl _,fun z1=>rfl⟩
  rw [if_pos h2,if_pos h2]
  refine wpAny_bind (wpAny_pure ?_)
  rw [StateT.run_pure]
  refine wpAny_bind (wpAny_pure ?_)
  dsimp only
  refine wpAny_bind (seqEpoch_at ho6 rfl ?_)
  refine wpAny_bind (listUpdate_at ho6 rfl ?_ (Nat.zero_le _) (o.sz hz))
  simp only [bne_self_eq_false,Bool.false_eq_true,if_false]
  exact wpAny_pure (h _ o)
 ·rw [if_neg h2,if_neg h2]
  obtain ⟨κ,hk,hC⟩:=hask (Nat.le_of_not_lt h2) { s with heap:=((s.heap.update a (Obj.mapSeq fun z1=>#[])).push (seqObj "tuple" vs.toArray 0)).push (seqObj "list" #[] 0) } fun b o hb e=>keep b o (Heap.lt_size e) ((Heap.get?_update_ne _ _ _ _ hb).trans e)
  refine wpAny_bind (hk _ _ ?_)
  refine wpAny_bind (wpAny_mono (z7s hC) ?_ fun z1 z2 e=>e)
  rintro ⟨⟨⟩,st'⟩ s' ⟨rfl,hf,o⟩
  dsimp only
  refine wpAny_bind (seqEpoch_at ho6 rfl ?_)
  refine wpAny_bind (listUpdate_at ho6 rfl ?_ (Nat.zero_le _) (o.sz hz))
  rw [hf]
  simp only [bne_self_eq_false,Bool.false_eq_true,if_false]
  exact wpAny_pure (h _ o)
theorem sorted_C {x:Value} {Lt:Value->Value->Prop} {Ok:Heap->List Value->Prop} {Q:Value->Shared->Prop}
  (hcol:∀ (Q':List Value->Shared->Prop) (E':Value->Shared->Prop),(∀ h' d tk vs,Ok h' vs->Q' vs { s with heap:=h',drawn:=d,toks:=tk })->wpAny (model prog w) A.in1 (collect x) Q' E' s)
  (hz:∀ h' vs,Ok h' vs->vs.length<sortLid)
  (hask:∀ h' vs,Ok h' vs->2<=vs.length->∀ (A':Around) (s':Shared),(∀ b o,h'.get? b=some o->s'.heap.get? b=some o)->∃ κ,(∀ (E:Value->Shared->Prop) (Q:SortKind->Shared->Prop),Q κ s'->wpAny (model prog w) A' (keyKind' vs.toArray) Q E s')/\z8r prog w A' s' κ Lt vs)
  (h:∀ h' d tk vs (out:Array Value) h'' L,Ok h' vs->Out Lt vs out->(∀ b o,h'.get? b=some o->h''.get? b=some o)->h'.get? L=none->(∃ n,h''.get? L=some (seqObj "list" out n))->Q (.ref L) { s with heap:=h'',drawn:=d,toks:=tk }) :
  wpAny (model prog w) A (call (.builtin "sorted") [x]) Q E s:=by
 refine Calls.call_function_entry kind_sorted plain_sorted entry_sorted (args_sorted1 _) ?_
 unfold Builtin.«sorted»
 refine wpAny_bind (m:=checkCount "sorted" 1 1 _) (wpAny_pure ?_)
 refine wpAny_bind (hcol _ _ fun h' d tk vs hok=>?_)
 have hz1:=hz h' vs hok
 refine wpAny_bind (wpAny_newList ?_ (line hz1))
 have hoL:(h'.push (seqObj "list" vs.toArray 0)).get? h'.objs.size=some (seqObj "list" vs.toArray 0):=Heap.get?_push_size _ rfl
 have keep:∀ b o,h'.get? b=some o->(h'.push (seqObj "list" vs.toArray 0)).get? b=some o:=fun b o e=>Heap.get?_push_of_some _ e
 show wpAny _ _ _ _ _ { s with heap:=h'.push (seqObj "list" vs.toArray 0),drawn:=d,toks:=tk }
 refine wpAny_bind (wpAny_holding (wpAny_call_entry slot_list_sort ⟨_,hoL,rfl⟩ entry_list_sort (zoo (s:={ s with heap:=h'.push (seqObj "list" vs.toArray 0),drawn:=d,toks:=tk }) (Lt:=Lt) hoL hz1 (fun h2 s' hk'=>hask h' vs hok h2 _ s' fun b o e=>?_) fun out a1=>⟨_,rfl,?_⟩) (args_list_sort _)))
 ·exact hk' b o (Nat.ne_of_lt (Heap.lt_size e)) (keep b o e)
 ·refine wpAny_pure ⟨_,rfl,h h' d tk vs out _ h'.objs.size hok a1 (fun b o e=>?_) (Heap.get?_none_of_le (Nat.le_refl _)) (sortedHeap_at (out:=out) hoL)⟩
  have hlt:=Heap.lt_size e
  rw [sortedHeap_old (Nat.ne_of_lt hlt) (by rw [size_push'];exact Nat.lt_succ_of_lt hlt)]
  exact keep b o e
end Tim
end Mine
end
section
namespace Mine
open PySem PySem.W PyProof.Rows
variable {c:Cx} {d:Nat} {sc:Scope} {m:zaf} {σ:Led} {P:V->Led->Prop} {X:XP} {K:Fl->zaf->Led->Prop}
theorem VRels.at {h:Heap} {own:List Addr} {α:Type} {e:α->V} {us:List α} {vs:List Value} (r:VRels h own (us.map e) vs) {i:Nat} {a:α} (ha:us[i]?=some a):VRel h own (e a) (vs.getD i .none):=by
 obtain ⟨cv,q1,q2⟩:=r.get (i:=i) (v:=e a) (by rw [List.getElem?_map,ha];rfl)
 rw [List.getD_eq_getElem?_getD,q1];exact q2
theorem VRels.len {h:Heap} {own:List Addr} {α:Type} {e:α->V} {us:List α} {vs:List Value} (r:VRels h own (us.map e) vs):vs.length=us.length:=r.length.trans (List.length_map _)
theorem VRels.perm {h:Heap} {own:List Addr} {α:Type} {e:α->V} {cs ds:List Value} (p:ds.Perm cs):∀ {xs:List α},VRels h own (xs.map e) cs->∃ ys:List α,ys.Perm xs/\VRels h own (ys.map e) ds:=by
 induction p with
 | nil=>intro xs r;exact ⟨xs,.refl _,r⟩
 | cons x _ ih=>
  intro xs r
  cases xs with
  | nil=>cases (show (_::_:List Value)=[] from r)
  | cons a xs=>
   obtain ⟨cv,cs',e',r1,r2⟩:=r
   cases e'
   obtain ⟨ys,hp,hr⟩:=ih r2
   exact ⟨a::ys,hp.cons a,_,_,rfl,r1,hr⟩
 | swap x y l=>
  intro xs r
  cases xs with
  | nil=>cases (show (_::_:List Value)=[] from r)
  | cons a xs=>
   obtain ⟨_,_,e',r1,r⟩:=r
   cases e'
   cases xs with
   | nil=>cases (show (_::_:List Value)=[] from r)
   | cons b xs=>
    obtain ⟨_,_,e',r2,r3⟩:=r
    cases e'
    exact ⟨b::a::xs,List.Perm.swap a b xs,_,_,rfl,r2,_,_,rfl,r1,r3⟩
 | trans _ _ h1 h2=>
  intro xs r
  obtain ⟨ys,hp,hr⟩:=h2 r
  obtain ⟨zs,hp',hr'⟩:=h1 hr
  exact ⟨zs,hp'.trans hp,hr'⟩
theorem VRels.of {h:Heap} {own:List Addr} {α:Type} {e:α->V} {us:List α} {vs:List Value} (r:VRels h own (us.map e) vs) {v:Value} (hv:v∈vs):∃ a,VRel h own (e a) v:=by
 obtain ⟨i,hi,rfl⟩:=List.mem_iff_getElem.mp hv
 have q:=r.at (List.getElem?_eq_getElem (r.len ▸ hi))
 rw [List.getD_eq_getElem?_getD,List.getElem?_eq_getElem hi] at q
 exact ⟨_,q⟩
theorem zpz {loc:Bool} {LtV:Value->Value->Prop} {α:Type} (e:α->V) {Us R:List α->Prop} {n:Nat} {x:Value} {A:Around} {s:Shared} {E:Value->Shared->Prop} (st:St c A σ s.heap) (hz:n<Tim.sortLid)
  (hn:∀ us,Us us->us.length=n)
  (hcol:∀ (Q':List Value->Shared->Prop) (E':Value->Shared->Prop),(∀ h' d tk vs (us:List α),Ext s.heap h'->Us us->VRels h' (zah c σ) (us.map e) vs->Q' vs { s with heap:=h',drawn:=d,toks:=tk })->wpAny c.M A.in1 (collect x) Q' E' s)
  (hask:∀ (A:Around) (s:Shared) (us:List α) (vs:List Value),2<=vs.length->VRels s.heap (zah c σ) (us.map e) vs->∃ k,(∀ (E:Value->Shared->Prop) (Q:SortKind->Shared->Prop),Q k s->wpAny c.M A (keyKind' vs.toArray) Q E s)/\
   ∀ a b ca cb,VRel s.heap (zah c σ) (e a) ca->VRel s.heap (zah c σ) (e b) cb->∀ (E:Value->Shared->Prop) (Q:Bool->Shared->Prop),(∀ r,(r=true->LtV ca cb)->Q r s)->wpAny c.M A (keyLt' k ca cb) Q E s)
  (hR:∀ h' us vs,R us->VRels h' (zah c σ) (us.map e) vs->vs.Pairwise fun a b=>¬ LtV b a)
  (h:∀ us ys:List α,Us us->ys.Perm us->(R us->ys=us)->zss c.F loc P (ys.map e) σ):wpAny c.M A (call (.builtin "sorted") [x]) (Post c A σ s P) E s:=by
 refine Tim.sorted_C (Lt:=LtV) (Ok:=fun h' vs=>∃ us:List α,Ext s.heap h'/\Us us/\VRels h' (zah c σ) (us.map e) vs) (fun Q' E' hq=>hcol Q' E' fun h' d tk vs us h1 h2 h3=>hq h' d tk vs ⟨us,h1,h2,h3⟩) ?_ ?_ ?_
 ·rintro h' vs ⟨us,_,h2,h3⟩
  rw [h3.len,hn us h2];exact hz
 ·rintro h' vs ⟨us,_,h2,h3⟩ hl A' s' hx
  have h4:=VRels.mono (Ext.kept hx) .refl _ _ h3
  obtain ⟨k,k1,k2⟩:=hask A' s' us vs hl h4
  refine ⟨k,k1,fun x hx y hy E' Q hQ=>?_⟩
  obtain ⟨a,ra⟩:=h4.of hx
  obtain ⟨b,rb⟩:=h4.of hy
  exact k2 a b x y ra rb E' Q hQ
 ·rintro h' d tk vs out h'' L' ⟨us,h1,h2,h3⟩ o hx hL ⟨n',pl⟩
  obtain ⟨ys,y1,y2,y3⟩:∃ ys:List α,ys.Perm us/\(R us->ys=us)/\VRels h' (zah c σ) (ys.map e) out.toList:=by
   rcases Classical.em (R us) with q | q
   ·refine ⟨us,.refl _,fun z1=>rfl,?_⟩
    rw [o.same (hR h' us vs q h3)];exact h3
   ·obtain ⟨ys,p1,p2⟩:=VRels.perm o.perm h3
    exact ⟨ys,p1,fun r=>absurd r q,p2⟩
  have hm:=h us ys h2 y1 y2
  have hx2:Ext s.heap h'':=fun b o e=>hx b o (h1 b o e)
  have hnew:s.heap.get? L'=none:=by
   cases q:s.heap.get? L' with
   | none=>rfl
   | some o=>rw [h1 _ _ q] at hL;cases hL
  have y4:=VRels.mono (Ext.kept hx) .refl _ _ y3
  have hl2:out.toList.length<=sizeLine:=by rw [o.perm.length_eq,h3.len,hn us h2];exact Tim.line hz
  have pl2:PlainSeq h'' "list" L' out.toList:=⟨n',by rw [Array.toArray_toList];exact pl⟩
  cases loc with
  | false=>exact ⟨.lst (ys.map e),σ,hm,.ext hx2 rfl rfl,st.ext hx2,L',_,rfl,st.noS hnew,pl2,hl2,y4⟩
  | true=>
   have hn:∀ b∈(O.list (ys.map e)).addrs L',s.heap.get? b=none:=fun b hb=>by
    rw [List.mem_singleton.mp hb];exact hnew
   exact ⟨.ref L',_,hm _ (fun q=>st.noS hnew (List.mem_append_right _ q)) (fun q=>st.noF hnew q),⟨hx2.kept,fun b o e=>⟨o,hx2 b o e⟩,fun b z1 o e=>hx2 b o e,.alloc hn,rfl,rfl⟩,st.alloc hx2 hn (by simp [O.addrs]) ⟨_,pl2,hl2,VRels.mono (Ext.kept hx) (Grow.alloc (o:=O.list (ys.map e)) fun b hb=>by rw [List.mem_singleton.mp hb];exact hL).wider _ _ y3⟩,rfl⟩
theorem zyp {α:Type} {e:α->V} {a:Addr} {vs:List Value} {us:List α} {A A':Around} {s:Shared} (p:PlainSeq s.heap "list" a vs) (hz:vs.length<=sizeLine) (r:VRels s.heap (zah c σ) (us.map e) vs)
  (Q':List Value->Shared->Prop) (E':Value->Shared->Prop) (h:∀ h' d tk vs (ys:List α),Ext s.heap h'->ys=us->VRels h' (zah c σ) (ys.map e) vs->Q' vs { s with heap:=h',drawn:=d,toks:=tk }):wpAny c.M A (collect (.ref a)) Q' E' s:=by
 have hx:Ext s.heap ((s.heap.push (seqObj "list" #[] 0)).update s.heap.objs.size (Obj.mapSeq (·++vs.toArray))):=fun b o q=>by
  rw [Heap.get?_update_ne _ _ _ _ (Nat.ne_of_lt (Heap.lt_size q))];exact Heap.get?_push_of_some _ q
 exact collect_list p.isList (h _ s.drawn s.toks vs us hx rfl (VRels.mono hx.kept .refl _ _ r)) hz
noncomputable def ltL:List Int->List Int->Bool
 | [],[]=>false
 | [],_::_=>true
 | _::_,[]=>false
 | x::xs,y::ys=>if x=y then ltL xs ys else decide (x<y)
section
variable {prog:Program} {w:World} {A:Around} {E:Value->Shared->Prop} {s:Shared}
theorem zry {b:Bool} {x y:Int} {t u:Tok} {Q:Bool->Shared->Prop} (h:Q (decide (x<y)) s):wpAny (model prog w) A (oneLt' b (.int x t) (.int y u)) Q E s:=by
 cases b with
 | true=>exact oneLt_int h
 | false=>exact kat_one _ _ (PySem.P.lt_int h)
theorem zx1 {own:List Addr} {b:Bool} {Q:Bool->Shared->Prop} {ns:List Int}:∀ {ks:List Int} {cs ds:List Value} {i:Nat} {fin:Bool},VRels s.heap own (ns.map .int) cs->VRels s.heap own (ks.map .int) ds->fin=decide (ns.length<ks.length)->Q (ltL ns ks) s->KatLex prog w A b fin Q (cs.zip ds) i s:=by
 induction ns with
 | nil=>
  intro ks cs ds i fin r1 r2 hf h
  cases (show cs=[] from r1)
  subst hf
  cases ks <;> exact h
 | cons n ns ih=>
  intro ks cs ds i fin r1 r2 hf h
  obtain ⟨_,cs',rfl,⟨t,rfl⟩,r1⟩:=r1
  cases ks with
  | nil=>
   cases (show ds=[] from r2)
   subst hf
   exact h
  | cons k ks=>
   obtain ⟨_,ds',rfl,⟨u,rfl⟩,r2⟩:=r2
   refine wpAny_eqBool_int ?_
   by_cases e:n=k
   ·rw [if_pos (beq_iff_eq.mpr e)]
    refine ih r1 r2 (hf.trans ?_) ?_
    ·rw [List.length_cons,List.length_cons];exact decide_eq_decide.mpr Nat.succ_lt_succ_iff
    ·have:ltL (n::ns) (k::ks)=ltL ns ks:=if_pos e
     rwa [this] at h
   ·rw [if_neg fun q=>e (beq_iff_eq.mp q)]
    have:ltL (n::ns) (k::ks)=decide (n<k):=if_neg e
    rw [this] at h
    exact zry h
theorem z1l {own:List Addr} {ns ks:List Int} {ca cb:Value} {fl:Bool} {Q:Bool->Shared->Prop} (r1:VRel s.heap own (.tup (ns.map .int)) ca) (r2:VRel s.heap own (.tup (ks.map .int)) cb) (h:Q (ltL ns ks) s):wpAny (model prog w) A (keyLt' (tuples' fl) ca cb) Q E s:=by
 obtain ⟨a,cs,rfl,_,⟨n,e1⟩,_,r1⟩:=r1
 obtain ⟨b,ds,rfl,_,⟨k,e2⟩,_,r2⟩:=r2
 exact kat_lt e1 rfl e2 rfl (zx1 r1 r2 (by rw [List.size_toArray,List.size_toArray,r1.len,r2.len]) h)
theorem zot {own:List Addr} {α:Type} {e:α->V} {key:α->List Int} (he:∀ a,e a=.tup ((key a).map .int)) (hne:∀ a,key a≠[]) {xs:List α}:∀ {vs:List Value},VRels s.heap own (xs.map e) vs->∃ fs:List Value,KatTups s.heap vs fs/\fs.length=vs.length/\∀ f∈fs,∃ n t,f=.int n t:=by
 induction xs with
 | nil=>intro vs r;cases (show vs=[] from r);exact ⟨[],trivial,rfl,fun z1 h=>nomatch h⟩
 | cons x xs ih=>
  intro vs r
  obtain ⟨v,vs',rfl,r1,r2⟩:=r
  obtain ⟨fs,f1,f2,f3⟩:=ih r2
  rw [he x] at r1
  obtain ⟨a,cs,rfl,_,⟨n,q⟩,_,rs⟩:=r1
  cases hk:key x with
  | nil=>exact absurd hk (hne x)
  | cons k ks=>
   rw [hk] at rs
   obtain ⟨_,cs',rfl,⟨t,rfl⟩,_⟩:=rs
   exact ⟨_,.cons q rfl rfl rfl f1,congrArg (·+1) f2,fun f hf=>(List.mem_cons.mp hf).elim (fun e=>⟨k,t,e⟩) (f3 f)⟩
theorem zu0 {own:List Addr} {α:Type} {e:α->V} {key:α->List Int} (he:∀ a,e a=.tup ((key a).map .int)) (hne:∀ a,key a≠[]) {xs:List α} {vs:List Value} {Q:SortKind->Shared->Prop} (r:VRels s.heap own (xs.map e) vs) (h2:2<=vs.length) (h:Q (tuples' true) s) :
  wpAny (model prog w) A (keyKind' vs.toArray) Q E s:=by
 obtain ⟨fs,f1,f2,f3⟩:=zot he hne r
 refine kat_kind (T:=.type "int") f1 (f2 ▸ Nat.lt_of_lt_of_le Nat.zero_lt_two h2) (fun v hv=>?_) rfl h
 obtain ⟨n,t,rfl⟩:=f3 v hv
 exact .now
end
theorem zgw {loc:Bool} {α:Type} (e:α->V) (key:α->List Int) (he:∀ a,e a=.tup ((key a).map .int)) (hne:∀ a,key a≠[]) {xs:List α} {lv:V} (hl:IsLst σ lv (xs.map e)) (hz:xs.length<Tim.sortLid)
  (h:∀ ys:List α,ys.Perm xs->zss c.F loc P (ys.map e) σ):CallS c d (.builtin "sorted") [lv] σ P X:=by
 intro A s E cs hA st rs _
 obtain ⟨x,rfl,r⟩:=rs.un1
 have hq:=hl.plain st r
 (try clear rs)
 obtain ⟨a,vs,rfl,p,hsz,rs⟩:=hq
 exact zpz (LtV:=fun z1 z2=>True) (Us:=fun us=>us=xs) (R:=fun z1=>False) e st hz (fun us q=>congrArg List.length q) (zyp (A':=A) p hsz rs) (fun A s us vs h2 r=>⟨tuples' true,fun E Q hQ=>zu0 he hne r h2 hQ,fun a b ca cb ra rb E Q hQ=>z1l (he a ▸ ra) (he b ▸ rb) (hQ _ fun z1=>trivial)⟩) (fun z1 z2 z3 q=>q.elim) fun us ys q hp z1=>h ys (q ▸ hp)
theorem zcc {α:Type} (e:α->V) (key:α->List Int) (he:∀ a,e a=.tup ((key a).map .int)) (hne:∀ a,key a≠[]) {xs:List α} {lv:V} (hl:IsLst σ lv (xs.map e)) (hz:xs.length<Tim.sortLid)
  (h:∀ ys:List α,ys.Perm xs->P (.lst (ys.map e)) σ):CallS c d (.builtin "sorted") [lv] σ P X:=zgw (loc:=false) e key he hne hl hz h
theorem VRels.intsAre {h:Heap} {own:List Addr} {ns:List Int}:∀ {cs:List Value},VRels h own (ns.map .int) cs->IntsAre cs ns:=by
 induction ns with
 | nil=>intro cs r;cases (show cs=[] from r);exact .nil
 | cons n ns ih=>intro cs r;obtain ⟨_,_,rfl,⟨t,rfl⟩,rs⟩:=r;exact .cons _ _ (ih rs)
noncomputable def intV:Value->Int
 | .int n _=>n
 | _=>0
theorem VRels.intV {h:Heap} {own:List Addr} {ns:List Int}:∀ {cs:List Value},VRels h own (ns.map .int) cs->cs.map Mine.intV=ns:=by
 induction ns with
 | nil=>intro cs r;cases (show cs=[] from r);rfl
 | cons n ns ih=>intro cs r;obtain ⟨_,_,rfl,⟨t,rfl⟩,rs⟩:=r;exact congrArg (n::·) (ih rs)
theorem zhl {Us:List Int->Prop} {n:Nat} {x:Value} {A:Around} {s:Shared} {E:Value->Shared->Prop} (st:St c A σ s.heap) (hz:n<Tim.sortLid) (hn:∀ us,Us us->us.length=n)
  (hcol:∀ (Q':List Value->Shared->Prop) (E':Value->Shared->Prop),(∀ h' d tk vs (us:List Int),Ext s.heap h'->Us us->VRels h' (zah c σ) (us.map .int) vs->Q' vs { s with heap:=h',drawn:=d,toks:=tk })->wpAny c.M A.in1 (collect x) Q' E' s)
  (h:∀ us ys:List Int,Us us->ys.Perm us->((us.Pairwise fun a b=>a<=b)->ys=us)->P (.lst (ys.map .int)) σ):wpAny c.M A (call (.builtin "sorted") [x]) (Post c A σ s P) E s:=by
 refine zpz (loc:=false) (LtV:=fun a b=>intV a<intV b) V.int (R:=fun us=>us.Pairwise fun a b=>a<=b) st hz hn hcol (fun A s us vs h2 r=>⟨oneType',fun E Q hQ=>?_,fun a b ca cb ra rb E Q hQ=>?_⟩) (fun h' us vs q r=>?_) h
 ·match vs,h2 with
  | v₁::v₂::vr,_=>rw [keyKind_ints (VRels.intsAre r)];exact wpAny_pure hQ
 ·obtain ⟨t,rfl⟩:=ra
  obtain ⟨u,rfl⟩:=rb
  exact oneLt_int (hQ _ of_decide_eq_true)
 ·rw [← r.intV] at q
  exact (List.pairwise_map.mp q).imp fun k=>Int.not_lt.mpr k
end Mine
end
section
namespace Mine
open PySem
theorem zfp {α:Type}:∀ {l:List α} {i:Nat} {x:α},l[i]?=some x->(x::l.eraseIdx i).Perm l
 | [],i,x,h=>by cases h
 | y::l,0,x,h=>by cases h;exact .refl _
 | y::l,i+1,x,h=>(List.Perm.swap ..).trans ((zfp (l:=l) (i:=i) h).cons y)
theorem zt4 {α:Type} (next:Nat->Nat):∀ (fuel k:Nat) (left:List α) (out:Array α),left.length=fuel->(pickOrder.go next fuel k left out).toList.Perm (out.toList++left)
 | 0,k,left,out,e=>by
  rw [List.eq_nil_of_length_eq_zero e,List.append_nil];exact .refl _
 | fuel+1,k,left,out,e=>by
  have hlt:next k % left.length<left.length:=Nat.mod_lt _ (by rw [e];exact Nat.succ_pos _)
  have hx:left[next k % left.length]?=some left[next k % left.length]:=List.getElem?_eq_getElem hlt
  unfold pickOrder.go
  rw [hx]
  dsimp only
  refine (zt4 next fuel (k+1) _ _ (by rw [List.length_eraseIdx_of_lt hlt,e];rfl)).trans ?_
  rw [Array.toList_push,List.append_assoc]
  exact List.Perm.append_left _ (zfp hx)
theorem zt3 {α:Type} (next:Nat->Nat) (xs:Array α):(pickOrder next xs).toList.Perm xs.toList:=zt4 next xs.size 0 xs.toList #[] (Array.length_toList ..)
section
variable {prog:Program} {w:World} {A:Around} {E:Value->Shared->Prop} {s:Shared}
theorem zsi {src:Source} {n:Nat} {Q:Nat->Shared->Prop} (hn:n≠0) (h:∀ i d,i<n->Q i { s with drawn:=d }):wpAny (model prog w) A (choose src n) Q E s:=
 fun Γ p z1=>⟨hn,h _ _ (Nat.mod_lt _ (Nat.pos_of_ne_zero hn))⟩
theorem zqu {α:Type}:∀ (n:Nat) (xs:List α) (s:Shared) {Q:List α->Shared->Prop},xs.length=n->(∀ ys d,ys.Perm xs->Q ys { s with drawn:=d })->wpAny (model prog w) A (drawOrder n xs) Q E s
 | 0,xs,s,Q,e,h=>by
  have:=h [] s.drawn (by rw [List.eq_nil_of_length_eq_zero e])
  unfold drawOrder
  exact wpAny_pure this
 | n+1,[],s,Q,e,h=>by cases e
 | n+1,x::xs,s,Q,e,h=>by
  unfold drawOrder
  refine wpAny_bind (zsi (by simp) fun i d hi=>?_)
  have hx:(x::xs)[i]?=some (x::xs)[i]:=List.getElem?_eq_getElem hi
  rw [hx]
  dsimp only
  refine wpAny_bind (zqu n _ _ (by rw [List.length_eraseIdx_of_lt hi,e];rfl) fun ys d' hp=>wpAny_pure (h _ _ ((hp.cons _).trans (zfp hx))))
end
theorem zlg {xs:Array Nat} {j:Nat} (hs:xs.toList.Pairwise (·<·)):∀ (fuel lo hi:Nat),hi - lo<=fuel->lo<=hi->hi<=xs.size->(∀ p v,p<lo->xs[p]?=some v->v<j)->(∀ p v,hi<=p->xs[p]?=some v->j<=v)->
  (∀ p v,p<SetTable.below.go xs j fuel lo hi->xs[p]?=some v->v<j)/\(∀ p v,SetTable.below.go xs j fuel lo hi<=p->xs[p]?=some v->j<=v)/\SetTable.below.go xs j fuel lo hi<=xs.size
 | 0,lo,hi,hf,h1,h2,a,b=>by
  have:lo=hi:=by (exact Ar.l02 (.eq (.v 0) (.v 1)) [(.le (.s (.v 1) (.v 0)) (.k 0)),(.le (.v 0) (.v 1))] (by kernel_rfl) hf h1)
  subst this
  unfold SetTable.below.go
  exact ⟨a,b,h2⟩
 | fuel+1,lo,hi,hf,h1,h2,a,b=>by
  unfold SetTable.below.go
  have mono:∀ p q v u,p<=q->xs[p]?=some v->xs[q]?=some u->v<=u:=fun p q v u hpq e1 e2=>by
   rcases Nat.lt_or_eq_of_le hpq with hpq | rfl
   ·rw [← Array.getElem?_toList] at e1 e2
    obtain ⟨q1,rfl⟩:=List.getElem?_eq_some_iff.mp e1
    obtain ⟨q2,rfl⟩:=List.getElem?_eq_some_iff.mp e2
    exact Nat.le_of_lt (List.pairwise_iff_getElem.mp hs p q q1 q2 hpq)
   ·rw [e1] at e2;cases e2;exact Nat.le_refl _
  by_cases hlt:lo<hi
  ·rw [if_pos hlt]
   have hm:(lo+hi) / 2<hi:=(Nat.div_lt_iff_lt_mul (by decide)).mpr (by rw [Nat.mul_two];exact Nat.add_lt_add_right hlt hi)
   have hm0:lo<=(lo+hi) / 2:=(Nat.le_div_iff_mul_le (by decide)).mpr (by rw [Nat.mul_two];exact Nat.add_le_add_left (Nat.le_of_lt hlt) lo)
   obtain ⟨v,hv⟩:∃ v,xs[(lo+hi) / 2]?=some v:=⟨_,getElem?_pos xs _ (by exact Ar.l03 (.lt (.v 0) (.v 1)) [(.le (.v 2) (.v 1)),(.lt (.v 0) (.v 2))] (by kernel_rfl) h2 hm)⟩
   have hg:xs.getD ((lo+hi) / 2) j=v:=by rw [Array.getD_eq_getD_getElem?,hv];rfl
   simp only [hg]
   by_cases hvj:v<j
   ·rw [if_pos hvj]
    exact zlg hs fuel _ hi (by exact Ar.l04 (.le (.s (.v 0) (.a (.v 1) (.k 1))) (.v 2)) [(.le (.s (.v 0) (.v 3)) (.a (.v 2) (.k 1))),(.le (.v 3) (.v 1))] (by kernel_rfl) hf hm0) (by exact Ar.l02 (.le (.a (.v 0) (.k 1)) (.v 1)) [(.lt (.v 0) (.v 1))] (by kernel_rfl) hm) h2 (fun p u hp e=>Nat.lt_of_le_of_lt (mono p _ u v (by exact Ar.l02 (.le (.v 0) (.v 1)) [(.lt (.v 0) (.a (.v 1) (.k 1)))] (by kernel_rfl) hp) e hv) hvj) b
   ·rw [if_neg hvj]
    exact zlg hs fuel lo _ (by exact Ar.l04 (.le (.s (.v 0) (.v 1)) (.v 2)) [(.le (.s (.v 3) (.v 1)) (.a (.v 2) (.k 1))),(.lt (.v 0) (.v 3))] (by kernel_rfl) hf hm) hm0 (by exact Ar.l03 (.le (.v 0) (.v 1)) [(.le (.v 2) (.v 1)),(.lt (.v 0) (.v 2))] (by kernel_rfl) h2 hm) a (fun p u hp e=>Nat.le_trans (Nat.not_lt.mp hvj) (mono _ p v u hp hv e))
  ·rw [if_neg hlt]
   have:lo=hi:=by (exact Ar.l02 (.eq (.v 0) (.v 1)) [(.le (.v 0) (.v 1)),(.no (.lt (.v 0) (.v 1)))] (by kernel_rfl) h1 hlt)
   subst this
   exact ⟨a,b,h2⟩
theorem zf1 {xs:Array Nat} (hs:xs.toList.Pairwise (·<·)) (j:Nat):(∀ p v,p<SetTable.below xs j->xs[p]?=some v->v<j)/\(∀ p v,SetTable.below xs j<=p->xs[p]?=some v->j<=v)/\SetTable.below xs j<=xs.size:=
 zlg hs xs.size 0 xs.size (by exact Ar.l01 (.le (.s (.v 0) (.k 0)) (.v 0)) [] (by kernel_rfl)) (Nat.zero_le _) (Nat.le_refl _) (fun p v h=>absurd h (Nat.not_lt_zero _)) fun p v h e=>by
  rw [Array.getElem?_eq_none h] at e;cases e
theorem zsk {xs:Array Nat} (hs:xs.toList.Pairwise (·<·)):SetTable.below xs 0=0:=by
 obtain ⟨a,b,c⟩:=zf1 hs 0
 rcases Nat.eq_zero_or_pos (SetTable.below xs 0) with q | q
 ·exact q
 ·exact absurd (a 0 _ q (getElem?_pos xs 0 (Nat.lt_of_lt_of_le q c))) (Nat.not_lt_zero _)
theorem zsl {xs:Array Nat} (hs:xs.toList.Pairwise (·<·)) {i j:Nat} (h:xs[i]?=some j):SetTable.below xs (j+1)=i+1:=by
 obtain ⟨a,b,c⟩:=zf1 hs (j+1)
 have hlt:=(Array.getElem?_eq_some_iff.mp h).1
 have h1:i<SetTable.below xs (j+1):=Nat.lt_of_not_le fun q=>absurd (b i j q h) (Nat.not_succ_le_self _)
 refine Nat.le_antisymm (Nat.le_of_not_lt fun q=>?_) h1
 have h2:i+1<xs.size:=Nat.lt_of_lt_of_le q c
 have e2:=getElem?_pos xs (i+1) h2
 have:=a (i+1) _ q e2
 rw [← Array.getElem?_toList] at h
 obtain ⟨q1,q2⟩:=List.getElem?_eq_some_iff.mp h
 have h3:=List.pairwise_iff_getElem.mp hs i (i+1) q1 (by simpa using h2) (Nat.lt_succ_self _)
 rw [q2] at h3
 simp at h3 this
 omega
end Mine
end
section
namespace Mine
open PySem
theorem zjl {α β:Type} {f:α->β} {xs ys:List β} (p:xs.Perm ys):∀ {l:List α},ys=l.map f->∃ m:List α,m.Perm l/\xs=m.map f:=by
 induction p with
 | nil=>intro l e;exact ⟨l,.refl _,e⟩
 | cons x _ ih=>
  intro l e
  cases l with
  | nil=>cases e
  | cons a l=>
   rw [List.map_cons] at e
   injection e with e1 e2
   obtain ⟨m,hm,e3⟩:=ih e2
   exact ⟨a::m,hm.cons a,by rw [List.map_cons,e3,e1]⟩
 | swap x y l0=>
  intro l e
  match l,e with
  | [],e=>cases e
  | [_],e=>simp at e
  | a::b::l,e=>
   simp only [List.map_cons,List.cons.injEq] at e
   exact ⟨b::a::l,.swap ..,by simp only [List.map_cons,e.1,e.2.1,e.2.2]⟩
 | trans _ _ h1 h2=>
  intro l e
  obtain ⟨m,hm,e'⟩:=h2 e
  obtain ⟨m',hm',e''⟩:=h1 e'
  exact ⟨m',hm'.trans hm,e''⟩
section
variable {prog:Program} {w:World} {K:Type} [DecidableEq K] {knd:KeyKind prog w K} {A:Around} {E:Value->Shared->Prop} {s:Shared}
structure SetL (knd:KeyKind prog w K) (led:Bool) (l:List (K × Value)) (es:Array (Int × Value)) (t:SetTable):Prop where
 ent:es.toList=l.map fun kv=>(knd.hash kv.1,kv.2)
 is:∀ kv∈l,knd.is kv.1 kv.2=true/\kv.2.scannable=true
 nodup:(l.map (·.1)).Nodup
 size:es.size<scanBound
 fits:t.fits es.size=true
 led:t.led=led
 rise:t.place.toList.Pairwise (·<·)
noncomputable def zcr (es:Array (Int × Value)) (ep:Nat) (t:SetTable):Obj:={ cls:=.type "set",data:=.set es ep t }
def SetR (knd:KeyKind prog w K) (led:Bool) (l:List (K × Value)) (h:Heap) (a:Addr):Prop:=∃ es ep t,h.get? a=some (zcr es ep t)/\SetL knd led l es t
theorem SetL.elems {led:Bool} {l:List (K × Value)} {es:Array (Int × Value)} {t:SetTable} (S:SetL knd led l es t):ElemsOf knd es.toList:=fun e he=>by
 rw [S.ent] at he
 obtain ⟨kv,hk,rfl⟩:=List.mem_map.mp he
 exact ⟨⟨kv.1,(S.is kv hk).1,rfl⟩,(S.is kv hk).2⟩
def zf3 (t:SetTable) (j:Nat):Prop:=t.place[SetTable.below t.place j]?≠some j
theorem zp0 {t:SetTable} {j:Nat} (h:∀ i,t.slot j≠.live i):zf3 t j:=fun q=>by
 refine h (SetTable.below t.place j) ?_
 unfold SetTable.slot
 simp only [q,beq_self_eq_true,if_true]
theorem ze4 (t:SetTable) (p:SetTable.Probe):(t.advance p).dummy=p.dummy:=by
 unfold SetTable.advance
 split <;> rfl
set_option tactic.hygienic true
theorem zoq {t:SetTable} {hA:Nat->Int} {h:Int}:∀ (fuel:Nat) (p:SetTable.Probe),(∀ d,p.dummy=some d->zf3 t d)->∀ j dm,SetTable.probe.go t hA h fuel p=some (.empty j dm)->zf3 t j/\∀ d,dm=some d->zf3 t d
 | 0,_,_,_,_,e=>by cases e
 | fuel+1,p,hp,j,dm,e=>by
  unfold SetTable.probe.go at e
  split at e
  ·rename_i hs
   cases e
   exact ⟨zp0 (fun i q=>by rw [hs] at q;cases q),hp⟩
  ·rename_i hs
   refine zoq fuel _ (fun d hd=>?_) j dm e
   rw [ze4] at hd
   cases hd
   exact zp0 fun i q=>by rw [hs] at q;cases q
  ·split at e
   ·cases e
   ·exact zoq fuel _ (fun d hd=>hp d (by rw [ze4] at hd;exact hd)) j dm e
theorem zyd {t:SetTable} {h:Int} {j:Nat} {b:Bool} (e:t.freeSlot h=some (j,b)):zf3 t j:=by
 unfold SetTable.freeSlot at e
 split at e
 ·rename_i j' dm hm
  obtain ⟨h1,h2⟩:=zoq _ _ (fun d hd=>by cases hd) _ _ hm
  cases dm with
  | none=>cases e;exact h1
  | some d=>cases e;exact h2 d rfl
 ·cases e
theorem zxk {t:SetTable} {j:Nat} (hs:t.place.toList.Pairwise (·<·)) (hj:zf3 t j):(t.put j).1.place.toList.Pairwise (·<·):=by
 obtain ⟨h1,h2,h3⟩:=zf1 hs j
 have e:(t.put j).1.place.toList=t.place.toList.take (SetTable.below t.place j)++j::t.place.toList.drop (SetTable.below t.place j):=by
  show (SetTable.insertAt t.place (SetTable.below t.place j) j).toList=_
  unfold SetTable.insertAt
  simp [List.take_of_length_le,Array.toList_extract]
 rw [e,List.pairwise_append]
 refine ⟨hs.sublist (List.take_sublist ..),List.pairwise_cons.mpr ⟨fun v hv=>?_,hs.sublist (List.drop_sublist ..)⟩,fun u hu v hv=>?_⟩
 ·obtain ⟨i,hi⟩:=List.mem_iff_getElem?.mp hv
  rw [List.getElem?_drop,Array.getElem?_toList] at hi
  have hle:=h2 _ v (Nat.le_add_right _ i) hi
  rcases Nat.lt_or_ge j v with q | q
  ·exact q
  ·exfalso
   have hvj:v=j:=Nat.le_antisymm q hle
   subst hvj
   cases i with
   | zero=>exact hj hi
   | succ i=>
    obtain ⟨w,hw⟩:∃ w,t.place[SetTable.below t.place v]?=some w:=by
     have:=(Array.getElem?_eq_some_iff.mp hi).1
     exact ⟨_,Array.getElem?_eq_getElem (by omega)⟩
    have hwle:=h2 _ w (Nat.le_refl _) hw
    have hlt:w<v:=by
     have a1:=Array.getElem?_eq_some_iff.mp hw
     have a2:=Array.getElem?_eq_some_iff.mp hi
     have:=List.pairwise_iff_getElem.mp hs (SetTable.below t.place v) (SetTable.below t.place v+(i+1)) (by simpa using a1.1) (by simpa using a2.1) (by omega)
     simp only [Array.getElem_toList] at this
     rw [a1.2,a2.2] at this
     exact this
    omega
 ·have huv:u<j:=by
   obtain ⟨i,hi⟩:=List.mem_iff_getElem?.mp hu
   rw [List.getElem?_take] at hi
   split at hi
   ·rename_i q;exact h1 i u q (by rw [← Array.getElem?_toList];exact hi)
   ·cases hi
  rcases List.mem_cons.mp hv with q | q
  ·rw [q];exact huv
  ·obtain ⟨i,hi⟩:=List.mem_iff_getElem?.mp q
   rw [List.getElem?_drop,Array.getElem?_toList] at hi
   exact Nat.lt_of_lt_of_le huv (h2 _ v (Nat.le_add_right _ i) hi)
set_option tactic.hygienic false
theorem zce (t:SetTable) (n:Nat):(t.standIn n).place.toList.Pairwise (·<·):=by
 show (Array.range n).toList.Pairwise (·<·)
 rw [Array.toList_range];exact List.pairwise_lt_range
set_option tactic.hygienic true
theorem zx4 {t:SetTable} (es:Array (Int × Value)) (h:Int) (x:Value) (hs:t.place.toList.Pairwise (·<·)):(layNew t es h x).2.1.place.toList.Pairwise (·<·):=by
 unfold layNew
 split
 ·rename_i slot wd hf
  dsimp only
  unfold SetTable.orStandIn
  split
  ·exact zxk hs (zyd hf)
  ·exact zce _ _
 ·exact zce _ _
theorem zrt (t:SetTable) (es:Array (Int × Value)) (n:Nat):(relayAll t es n).2.1.place.toList.Pairwise (·<·):=by
 unfold relayAll
 split
 ·rename_i t' order hr
  dsimp only
  split
  ·unfold SetTable.relaid SetTable.laid at hr
   simp only [Option.bind_eq_bind,Option.bind_eq_some_iff,Option.pure_def,Option.some.injEq,Prod.mk.injEq] at hr
   obtain ⟨owner,_,rfl,_⟩:=hr
   simp only
   rw [List.pairwise_map]
   refine List.Pairwise.filterMap _ (fun a a' haa b hb b' hb'=>?_) List.pairwise_lt_range
   simp only [Option.map_eq_some_iff,Option.mem_def] at hb hb'
   obtain ⟨_,_,rfl⟩:=hb
   obtain ⟨_,_,rfl⟩:=hb'
   exact haa
  ·exact zce _ _
 ·exact zce _ _
set_option tactic.hygienic false
theorem z1p (t:SetTable) (es:Array (Int × Value)) (h:Int) (x:Value):(layNew t es h x).2.1.led=t.led:=by
 unfold layNew
 split
 ·dsimp only
  unfold SetTable.orStandIn
  split <;> rfl
 ·rfl
set_option tactic.hygienic true
theorem ztz (t:SetTable) (es:Array (Int × Value)) (n:Nat):(relayAll t es n).2.1.led=t.led:=by
 unfold relayAll
 split
 ·rename_i t' order hr
  dsimp only
  split
  ·unfold SetTable.relaid SetTable.laid at hr
   simp only [Option.bind_eq_bind,Option.bind_eq_some_iff,Option.pure_def,Option.some.injEq,Prod.mk.injEq] at hr
   obtain ⟨_,_,rfl,_⟩:=hr
   rfl
  ·rfl
 ·rfl
set_option tactic.hygienic false
theorem zl8 {a:Addr} {es es':Array (Int × Value)} {ep:Nat} {t t':SetTable} {Q:Unit->Shared->Prop} (ho:s.heap.get? a=some (zcr es ep t)) (hb:es'.size<scanBound)
  (h:∀ h',Heap.SameBut a s.heap h'->h'.get? a=some (zcr es' (ep+1) t')->Q () { s with heap:=h' }):wpAny (model prog w) A (storeSet a es' t') Q E s:=by
 refine wpAny_storeSet_of ho rfl (h _ (Heap.SameBut.update ..) ?_) (fits_of_scanBound hb)
 have:=Heap.get?_update_self (Obj.putSet es' t') ho (by rw [putSet_of es' t' rfl];rfl)
 rw [putSet_of es' t' rfl] at this;exact this
theorem zxj {a:Addr} {led:Bool} {l:List (K × Value)} {k:K} {x:Value} {Q:Bool->Shared->Prop} (hkey:knd.is k x=true) (hsc:x.scannable=true) (hS:SetR knd led l s.heap a) (hroom:l.length+1<scanBound)
  (h:∀ h' l' b,Heap.SameBut a s.heap h'->SetR knd led l' h' a->l'.Perm (if k∈l.map (·.1) then l else l++[(k,x)])->Q b { s with heap:=h' }) :
  wpAny (model prog w) A (setAddHashed a x (knd.hash k)) Q E s:=by
 obtain ⟨es,ep,t,ho,S⟩:=hS
 have hel:=S.elems
 have hd:(zcr es ep t).data=.set es ep t:=rfl
 unfold setAddHashed setAddHashedIn
 refine wpAny_holding (wpAny_bind (wpAny_setState_of ho hd S.fits ?_))
 dsimp only
 rw [byScan_of hsc S.size hel]
 simp only [↓reduceIte]
 unfold setAddByScan
 refine wpAny_bind ?_
 refine wpAny_bind (wpAny_rule ?_)
 refine wpAny_bind (wpAny_setScan_of hkey ho hd S.fits hel ?_)
 have hmem:(∃ e∈es.toList,knd.is k e.2=true) ↔ k∈l.map (·.1):=by
  rw [S.ent]
  constructor
  ·rintro ⟨e,he,hp⟩
   obtain ⟨kv,hk,rfl⟩:=List.mem_map.mp he
   exact List.mem_map.mpr ⟨kv,hk,knd.inj _ _ _ (S.is kv hk).1 hp⟩
  ·intro hm
   obtain ⟨kv,hk,rfl⟩:=List.mem_map.mp hm
   exact ⟨_,List.mem_map.mpr ⟨kv,hk,rfl⟩,(S.is kv hk).1⟩
 cases hr:List.findIdx? (fun e=>knd.is k e.2) es.toList with
 | some j=>
  dsimp only
  obtain ⟨hj,hpj,_⟩:=List.findIdx?_eq_some_iff_getElem.mp hr
  refine wpAny_pure (wpAny_pure ?_)
  have e:s={ s with heap:=s.heap }:=by cases s;rfl
  rw [e]
  refine h s.heap l _ (Heap.SameBut.refl a s.heap) ⟨es,ep,t,ho,S⟩ ?_
  rw [if_pos (hmem.mp ⟨_,List.getElem_mem hj,hpj⟩)]
 | none=>
  dsimp only
  have hno:k∉l.map (·.1):=fun hm=>by
   obtain ⟨e,he,hp⟩:=hmem.mpr hm
   have:=List.findIdx?_eq_none_iff.mp hr e he
   rw [hp] at this;exact Bool.noConfusion this
  have hgw:∀ (b:Bool) {s₁:Shared} {Q':Unit->Shared->Prop},Q' () s₁->wpAny (model prog w) A (match b with | true=>rule "set.scan.the-table-gave-way" | false=>pure ()) Q' E s₁:=
   fun b s₁ Q' hq=>by cases b <;> first | exact wpAny_pure hq | exact wpAny_rule hq
  have hperm:=layNew_perm t es (knd.hash k) x
  have hfits:=layNew_fits t es (knd.hash k) x
  have hled:=(z1p t es (knd.hash k) x).trans S.led
  have hrise:=zx4 es (knd.hash k) x S.rise
  generalize hL:layNew t es (knd.hash k) x=L at hperm hfits hled hrise ⊢
  obtain ⟨es1,t1,wasDummy,gave⟩:=L
  dsimp only at hperm hfits hled hrise ⊢
  obtain ⟨l1,hl1,e1⟩:=zjl (f:=fun kv:K × Value=>(knd.hash kv.1,kv.2)) (l:=l++[(k,x)]) hperm (by rw [Array.toList_push,S.ent,List.map_append];rfl)
  have hlen:es1.size=l.length+1:=by rw [← Array.length_toList,e1,List.length_map,hl1.length_eq,List.length_append];rfl
  have mk:∀ (es2:Array (Int × Value)) (t2:SetTable),List.Perm es2.toList es1.toList->t2.fits es2.size=true->t2.led=led->t2.place.toList.Pairwise (·<·)->∃ l2,l2.Perm (l++[(k,x)])/\SetL knd led l2 es2 t2:=fun es2 t2 p f hl hp=>by
   obtain ⟨l2,h2,e2⟩:=zjl p e1
   have p2:=h2.trans hl1
   refine ⟨l2,p2,⟨e2,fun kv hkv=>?_,?_,?_,f,hl,hp⟩⟩
   ·rcases List.mem_append.mp (p2.mem_iff.mp hkv) with q | q
    ·exact S.is kv q
    ·rw [List.mem_singleton.mp q];exact ⟨hkey,hsc⟩
   ·rw [(p2.map (·.1)).nodup_iff,List.map_append,List.nodup_append]
    refine ⟨S.nodup,by simp,fun u hu v hv q=>?_⟩
    simp only [List.map_cons,List.map_nil,List.mem_singleton] at hv
    rw [q,hv] at hu;exact hno hu
   ·rw [← Array.length_toList,p.length_eq,Array.length_toList,hlen];exact hroom
  refine wpAny_bind (hgw _ ?_)
  have hend:∀ h' es2 ep2 t2 l2 b,Heap.SameBut a s.heap h'->h'.get? a=some (zcr es2 ep2 t2)->l2.Perm (l++[(k,x)])->SetL knd led l2 es2 t2->Q b { s with heap:=h' }:=fun h' es2 ep2 t2 l2 b sb e p S2=>h h' l2 b sb ⟨es2,ep2,t2,e,S2⟩ (by rw [if_neg hno];exact p)
  have fin:∀ t2:SetTable,t2.fits es1.size=true->t2.led=led->t2.place.toList.Pairwise (·<·)->wpAny (model prog w) A (do
    storeSet a es1 t2
    if (!wasDummy && t2.tooFull)=true then do
      (match (relayAll t2 es1 (SetTable.grown es1.size)).2.2 with | true=>rule "set.scan.the-table-gave-way" | false=>pure ())
      storeSet a (relayAll t2 es1 (SetTable.grown es1.size)).1 (relayAll t2 es1 (SetTable.grown es1.size)).2.1
      pure (some true)
     else pure (some true)) (fun r s'=>match r with | some b=>Q b s' | none=>False) E s:=by
   intro t2 f1 f2 f3
   refine wpAny_bind (zl8 ho (by rw [hlen];exact hroom) fun h1 sb1 g1=>?_)
   split
   ·have hp:=relayAll_perm t2 es1 (SetTable.grown es1.size)
    have hf:=relayAll_fits t2 es1 (SetTable.grown es1.size)
    have q1:=ztz t2 es1 (SetTable.grown es1.size)
    have q2:=zrt t2 es1 (SetTable.grown es1.size)
    generalize relayAll t2 es1 (SetTable.grown es1.size)=R at hp hf q1 q2 ⊢
    obtain ⟨l2,p2,S2⟩:=mk R.1 R.2.1 hp hf (q1.trans f2) q2
    refine wpAny_bind (hgw _ ?_)
    refine wpAny_bind (zl8 (s:={ s with heap:=h1 }) g1 S2.size fun h2 sb2 g2=>wpAny_pure ?_)
    exact hend h2 _ _ _ l2 true (sb1.trans sb2) g2 p2 S2
   ·obtain ⟨l2,p2,S2⟩:=mk es1 t2 (.refl _) f1 f2 f3
    exact wpAny_pure (hend h1 _ _ _ l2 true sb1 g1 p2 S2)
  split
  ·refine wpAny_bind ?_
   rw [hashByValue_scannable 8 hsc]
   refine wpAny_pure ?_
   cases plainKind x with
   | true=>
    simp only [↓reduceIte]
    refine wpAny_mono (fin t1 hfits hled hrise) (fun r s' q=>?_) fun z1 z2 q=>q
    cases r with
    | none=>exact q.elim
    | some b=>exact wpAny_pure q
   | false=>
    refine wpAny_mono (fin { t1 with plain:=false } (SetTable.fits_plain_off hfits) hled hrise) (fun r s' q=>?_) fun z1 z2 q=>q
    cases r with
    | none=>exact q.elim
    | some b=>exact wpAny_pure q
  ·refine wpAny_bind (wpAny_pure ?_)
   simp only [↓reduceIte]
   refine wpAny_mono (fin t1 hfits hled hrise) (fun r s' q=>?_) fun z1 z2 q=>q
   cases r with
   | none=>exact q.elim
   | some b=>exact wpAny_pure q
end
end Mine
end
section
namespace Mine
open PySem PySem.Spec
section
variable {prog:Program} {w:World} {K:Type} [DecidableEq K] {knd:KeyKind prog w K} {A:Around} {E:Value->Shared->Prop} {s:Shared}
theorem SetR.at {led:Bool} {l:List (K × Value)} {h h':Heap} {a:Addr} (x:SetR knd led l h a) (k:∀ o,h.get? a=some o->h'.get? a=some o):SetR knd led l h' a:=
 let ⟨es,ep,t,e,S⟩:=x;⟨es,ep,t,k _ e,S⟩
theorem zxh {R:Result->Shared->Prop} {I:Addr} {fp wr:List Addr} {G:Array GenState->Array GenState->Prop} {n:Nat} {P:Nat->Value->Prop} {St:Nat->Shared->Prop} (W:WalksS prog w A.in1 I fp wr G n P St) (S:Addr) (hSf:S∉fp) {led:Bool} (key:Nat->K)
  (hval:∀ i v,P i v->knd.is (key i) v=true/\v.scannable=true) (hb:n+1<scanBound) :
  ∀ (k i:Nat) (s:Shared) (l:List (K × Value)),n - i=k->i<=n->St i s->SetR knd led l s.heap S->l.length<=i->(∀ q,q∈l.map (·.1) ↔ ∃ j,j<i/\key j=q)->
   (∀ s' l',Moved (S::wr) G s s'->SetR knd led l' s'.heap S->(∀ q,q∈l'.map (·.1) ↔ ∃ j,j<n/\key j=q)->R (.ok (.ret .none)) s')->
   codeAny (model prog w) A (.builtin "set.update.loop" ⟨[.ref S,.ref I],[]⟩) R s:=by
 have hSw:S∉wr:=fun h=>hSf (W.sub _ h)
 have hsub:∀ b∈wr,b∈S::wr:=fun b hb=>List.mem_cons_of_mem _ hb
 intro k
 induction k with
 | zero=>
  intro i s l hk hi hst hS hl hm hR
  have hin:i=n:=Nat.le_antisymm hi (Nat.sub_eq_zero_iff_le.mp hk)
  subst hin
  refine codeAny_builtin PyProof.Rows.F.entry_set_update_loop ?_
  rw [Around.under_plainId PyProof.Rows.F.plain_set_update_loop _]
  show wpAny _ A.in1 (pyNext (.ref I) >>= _) _ _ s
  refine wpAny_bind (W.done s _ _ hst fun s' hm'=>?_)
  show wpAny _ A.in1 (ret Value.none) _ _ s'
  exact wpAny_pure (hR s' l (hm'.mono hsub) (hS.at fun o e=>hm'.heap S _ hSw e) hm)
 | succ k ih=>
  intro i s l hk hi hst hS hl hm hR
  have hlt:i<n:=by (exact Ar.l03 (.lt (.v 0) (.v 1)) [(.eq (.s (.v 1) (.v 0)) (.a (.v 2) (.k 1)))] (by kernel_rfl) hk)
  refine codeAny_builtin PyProof.Rows.F.entry_set_update_loop ?_
  rw [Around.under_plainId PyProof.Rows.F.plain_set_update_loop _]
  show wpAny _ A.in1 (pyNext (.ref I) >>= _) _ _ s
  refine wpAny_bind (W.item i s _ _ hlt hst fun v s' hP hst' hm'=>?_)
  obtain ⟨v1,v2⟩:=hval i v hP
  have hS':SetR knd led l s'.heap S:=hS.at fun o e=>hm'.heap S _ hSw e
  show wpAny _ A.in1 (holding [v] (setAdd S v) >>= _) _ _ s'
  refine wpAny_bind (wpAny_holding ?_)
  unfold setAdd
  refine wpAny_holding ?_
  refine wpAny_bind (knd.pyHash (k:=key i) v1 ?_)
  refine zxj (s:={ s' with toks:=s'.toks+1 }) v1 v2 hS' (by exact Ar.l05 (.lt (.a (.v 0) (.k 1)) (.v 1)) [(.lt (.a (.v 2) (.k 1)) (.v 1)),(.eq (.s (.v 2) (.v 3)) (.a (.v 4) (.k 1))),(.le (.v 0) (.v 3))] (by kernel_rfl) hb hk hl) fun h' l' b hsb hS2 hp=>?_
  refine wpAny_pure ⟨plainId_quiet PyProof.Rows.F.plain_set_update_loop _,ih (i+1) _ l' (by exact Ar.l03 (.eq (.s (.v 0) (.a (.v 1) (.k 1))) (.v 2)) [(.eq (.s (.v 0) (.v 1)) (.a (.v 2) (.k 1)))] (by kernel_rfl) hk) hlt (W.frame _ s' _ _ hst' (Nat.le_succ _) fun b hb o e=>?_) hS2 ?_ (fun q=>?_) fun s'' l'' hm'' hS'' hq=>?_⟩
  ·rw [hsb.2 b (fun h:b=S=>hSf (by rw [← h];exact hb))];exact e
  ·rw [hp.length_eq]
   split
   ·(exact Ar.l02 (.le (.v 0) (.a (.v 1) (.k 1))) [(.le (.v 0) (.v 1))] (by kernel_rfl) hl)
   ·rw [List.length_append];simp;(exact Ar.l02 (.le (.v 0) (.v 1)) [(.le (.v 0) (.v 1))] (by kernel_rfl) hl)
  ·rw [(hp.map (·.1)).mem_iff]
   constructor
   ·intro hq
    split at hq
    ·obtain ⟨j,j1,j2⟩:=(hm q).mp hq;exact ⟨j,Nat.lt_succ_of_lt j1,j2⟩
    ·rw [List.map_append,List.mem_append] at hq
     rcases hq with hq | hq
     ·obtain ⟨j,j1,j2⟩:=(hm q).mp hq;exact ⟨j,Nat.lt_succ_of_lt j1,j2⟩
     ·simp only [List.map_cons,List.map_nil,List.mem_singleton] at hq;exact ⟨i,Nat.lt_succ_self _,hq.symm⟩
   ·rintro ⟨j,j1,rfl⟩
    rcases Nat.lt_or_eq_of_le (Nat.le_of_lt_succ j1) with j1 | rfl
    ·have:=(hm (key j)).mpr ⟨j,j1,rfl⟩
     split
     ·exact this
     ·rw [List.map_append];exact List.mem_append_left _ this
    ·split
     ·assumption
     ·rw [List.map_append];exact List.mem_append_right _ (by simp)
  ·refine hR s'' l'' (Moved.trans W.gtrans ((hm'.mono hsub).then_heap (Nat.le_succ _) fun b o hb e=>?_) hm'') hS'' hq
   rw [hsb.2 b (fun h:b=S=>hb (by rw [h];exact List.mem_cons_self))];exact e
theorem z05 (a:Value) {Q₁:Value->Shared->Prop}
  (h:Q₁ (.ref s.heap.objs.size) { s with heap:=s.heap.push (zcr #[] 0 (.fresh 0 0 !(w.params.followText "set-order"))) }) :
  codeAny (model prog w) A (.call (.builtin "set.__new__") ⟨[.type "set",a],[]⟩) (wants Q₁ E) s:=by
 refine codeAny_of_tree ?_
 show wpAny _ A.in1 (do checkBuiltinCall "set.__new__" ⟨[.type "set",a],[]⟩;again (.builtin "set.__new__" ⟨[.type "set",a],[]⟩)) _ _ s
 refine wpAny_bind (wpAny_of_eq (F.newCall_set_1 a) (wpAny_pure ⟨plainId_quiet F.plain_set_new _,codeAny_builtin F.entry_set_new ?_⟩))
 rw [Around.under_plainId F.plain_set_new _]
 unfold Builtin.«set.__new__» Builtin.Frozenset.newClass
 have hsub:=sub_set_self
 obtain ⟨hp,g,d,tk,os⟩:=s
 dsimp only
 wp_walk
 refine wpAny_askSetting (wpAny_pure ?_)
 dsimp only
 simp only [newObj]
 refine wpAny_bind (wpAny_alloc (wpAny_pure ?_))
 exact wpAny_pure h
set_option maxHeartbeats 3200000 in
theorem zxi {S l:Addr} {items:Array Value} {led:Bool} (key:Nat->K) {R:Result->Shared->Prop} (hh:A.handled=none) (hS:s.heap.get? S=some (zcr #[] 0 (.fresh 0 0 led))) (hl:s.heap.IsList l items) (hne0:l≠S)
  (hi:∀ i v,items[i]?=some v->knd.is (key i) v=true/\v.scannable=true) (hb:items.size+1<scanBound)
  (hR:∀ (h':Heap) (tk:Nat) (kvs:List (K × Value)),SetR knd led kvs h' S->(∀ q,q∈kvs.map (·.1) ↔ ∃ j,j<items.size/\key j=q)->(∀ b o,b≠S->s.heap.get? b=some o->h'.get? b=some o)->R (.ok (.ret .none)) { s with heap:=h',toks:=tk }) :
  codeAny (model prog w) A (.call (.builtin "set.__init__") ⟨[.ref S,.ref l],[]⟩) R s:=by
 have hT:s.TypeIs (.ref S) "set":=⟨_,hS,rfl⟩
 refine codeAny_call_builtin F.called_set.init.plain F.entry_set_init (check_set_init_1 hT ?_)
 have hl1:=hl
 obtain ⟨ol,hol,hcl,nl,hdl⟩:=hl
 obtain ⟨ocls,odict,odata,oslots⟩:=ol
 simp only at hcl hdl
 subst hcl;subst hdl
 have hsls:=F.sub_list_set
 have hslf:=F.sub_list_frozenset
 have hne:(Value.type "list" == Value.type "dict")=false:=by decide
 unfold Builtin.«set.__init__» noKeywords Builtin.Frozenset.updateFrom
 generalize hPI:pyIter=PI
 wp_walk
 subst hPI
 refine wpAny_pyIter_list hl1 ?_
 refine wpAny_bind (wpAny_runValue ?_)
 have hh3:A.in1.in1.handled=none:=by simp [hh]
 have hlS:l<s.heap.objs.size:=Heap.lt_size hol
 have hSlt:S<s.heap.objs.size:=Heap.lt_size hS
 have hSf:S∉[s.heap.objs.size,l]:=by
  simp only [List.mem_cons,List.not_mem_nil,or_false,not_or]
  exact ⟨Nat.ne_of_lt hSlt,hne0.symm⟩
 refine zxh (knd:=knd) ((Walks.list hh3 _ l (Nat.ne_of_lt hlS) items).toS) S hSf key hi hb (items.size - 0) 0 _ [] (by exact Ar.l01 (.eq (.s (.v 0) (.k 0)) (.s (.v 0) (.k 0))) [] (by kernel_rfl)) (Nat.zero_le _)
  ⟨⟨_,Heap.get?_push_size _ rfl,rfl,rfl⟩,(hl1.push _)⟩ ⟨#[],0,_,Heap.get?_push_of_some _ hS,⟨rfl,by simp,by simp,by decide,rfl,rfl,.nil⟩⟩ (Nat.le_refl _) (fun q=>by simp) fun s' kvs hm hS' hq=>?_
 obtain ⟨h',g',d',tk',os'⟩:=s'
 have eg:g'=s.gens:=hm.gens
 have ed:d'=s.drawn:=hm.drawn
 have eo:os'=s.os:=hm.os
 subst eg;subst ed;subst eo
 show wpAny _ _ _ _ _ _
 refine wpAny_pure ?_
 show wpAny _ _ (ret Value.none) _ _ _
 refine wpAny_pure (hR h' tk' kvs hS' hq fun b o hbS e=>hm.heap b o ?_ (Heap.get?_push_of_some _ e))
 simp only [List.mem_cons,List.not_mem_nil,or_false,not_or]
 exact ⟨hbS,Nat.ne_of_lt (Heap.lt_size e)⟩
set_option maxHeartbeats 3200000 in
theorem zys {l:Addr} {items:Array Value} (key:Nat->K) {Q:Value->Shared->Prop} (hh:A.handled=none) (hl:s.heap.IsList l items)
  (hi:∀ i v,items[i]?=some v->knd.is (key i) v=true/\v.scannable=true) (hb:items.size+1<scanBound)
  (h:∀ (h':Heap) (tk:Nat) (kvs:List (K × Value)),SetR knd (!(w.params.followText "set-order")) kvs h' s.heap.objs.size->(∀ q,q∈kvs.map (·.1) ↔ ∃ j,j<items.size/\key j=q)->
   (∀ b o,s.heap.get? b=some o->h'.get? b=some o)->Q (.ref s.heap.objs.size) { s with heap:=h',toks:=tk }) :
  wpAny (model prog w) A (call (.type "set") [.ref l]) Q E s:=by
 obtain ⟨c,tl,hmro⟩:=F.called_set.mro
 have hmade:=F.called_set.made
 have hsub:=F.called_set.sub
 refine wpAny_call (codeAny_of_tree ?_)
 show wpAny _ _ (callAny (.type "set") _) _ _ _
 refine wpAny_pure ⟨Code.quiet_builtin _ (by decide +kernel),codeAny_builtin F.entry_type_call ?_⟩
 rw [Around.under_plain (weight_type_call_type "set" [.ref l] []) rfl]
 have h1:=F.called_set.notType
 have h2:=F.called_set.canCreate
 have hct:=F.typeCall_set_1 (.ref l)
 repeat (any_goals (first | assumption | wp_step))
 obtain ⟨S,hSe⟩:∃ S,s.heap.objs.size=S:=⟨_,rfl⟩
 rw [hSe] at h
 refine codeAny_mono (z05 (.ref l) (E:=E) (Q₁:=fun obj s₁=>obj=.ref S/\∃ h1:Heap,s₁={ s with heap:=h1 }/\h1.get? S=some (zcr #[] 0 (.fresh 0 0 !(w.params.followText "set-order")))/\∀ b o,s.heap.get? b=some o->h1.get? b=some o) ⟨by rw [hSe],_,rfl,by rw [← hSe];exact Heap.get?_push_size _ rfl,fun b o e=>Heap.get?_push_of_some _ e⟩) fun r s₁ hr=>?_
 cases r with
 | error e=>exact hr
 | ok fl=>
  cases fl with
  | ret obj=>
   obtain ⟨rfl,h1,rfl,hS,hk⟩:=hr
   have hT:Shared.TypeIs { s with heap:=h1 } (.ref S) "set":=⟨_,hS,rfl⟩
   have hli:=F.called_set.init.lookup
   have hbi:=F.called_set.init.bind (.ref S)
   repeat (any_goals (first | assumption | wp_step))
   obtain ⟨ol,hol,hol2⟩:=hl
   have hlS:l≠S:=fun q=>absurd (Heap.lt_size hol) (by rw [q,hSe];exact Nat.lt_irrefl _)
   refine codeAny_mono (zxi (s:={ s with heap:=h1 }) (R:=wants (fun r s₂=>r=.none/\∃ h' tk kvs,s₂={ s with heap:=h',toks:=tk }/\
     SetR knd (!(w.params.followText "set-order")) kvs h' S/\(∀ q,q∈kvs.map (·.1) ↔ ∃ j,j<items.size/\key j=q)/\
     (∀ b o,s.heap.get? b=some o->h'.get? b=some o)) E) key (by simp [hh]) hS ⟨ol,hk _ _ hol,hol2⟩ hlS hi hb fun h' tk kvs q1 q2 q3=>⟨rfl,h',tk,kvs,rfl,q1,q2,fun b o e=>q3 b o (fun q=>absurd (Heap.lt_size e) (by rw [q,hSe];exact Nat.lt_irrefl _)) (hk b o e)⟩) fun r₂ s₂ hr₂=>?_
   cases r₂ with
   | error e=>exact hr₂
   | ok fl₂=>
    cases fl₂ with
    | ret r=>
     obtain ⟨rfl,h',tk,kvs,rfl,hS',hq,hk'⟩:=hr₂
     repeat (any_goals (first | assumption | wp_step))
     exact h _ _ kvs hS' hq hk'
    | _=>exact hr₂.elim
  | _=>exact hr.elim
end
end Mine
end
section
namespace Mine
open PySem
theorem slot_si_next:Slot "set_iterator" "__next__" "set_iterator.__next__":=
 .of (owner:="set_iterator") (n:="__next__") (by rw [typeLookup_type,builtinLookup_eq_fast];kernel_rfl) (by decide +kernel) (by decide +kernel) (by decide +kernel)
  (by first | exact .inl (by decide +kernel) | exact .inr (by decide +kernel)) (by rw [isSubtype_type];kernel_rfl)
theorem zk9:entryFor table "set_iterator.__next__"=some Builtin.«set_iterator.__next__»:=entryFor_of_tree (by kernel_rfl)
theorem zp5:Manifest.owners.lookup (String.ofList ['r','o','t','a','r','e','t','i','_','t','e','s'].reverse)=some Manifest.sig_set_iterator:=by kernel_rfl
theorem zm4 (a:Value):argsOk "set_iterator.__next__" ⟨[a],[]⟩:=by
 unfold argsOk;rw [signature?_of (id:="set_iterator.__next__") (n:=['_','_','t','x','e','n','_','_']) (o:=['r','o','t','a','r','e','t','i','_','t','e','s']) (by kernel_rfl) zp5];kernel_rfl
theorem zi7:entryFor table "set.__iter__"=some Builtin.«frozenset.__iter__»:=entryFor_alias (id':="frozenset.__iter__") (by kernel_rfl) rfl (by decide +kernel) (by kernel_rfl)
theorem zf8:Slot "set_iterator" "__iter__" "set_iterator.__iter__":=
 .of (owner:="set_iterator") (n:="__iter__") (by rw [typeLookup_type,builtinLookup_eq_fast];kernel_rfl) (by decide +kernel) (by decide +kernel) (by decide +kernel)
  (by first | exact .inl (by decide +kernel) | exact .inr (by decide +kernel)) (by rw [isSubtype_type];kernel_rfl)
theorem zla:entryFor table "set_iterator.__iter__"=some Builtin.«dict_keyiterator.__iter__»:=entryFor_alias (id':="dict_keyiterator.__iter__") (by kernel_rfl) rfl (by decide +kernel) (by kernel_rfl)
theorem zm5 (a:Value):argsOk "set_iterator.__iter__" ⟨[a],[]⟩:=by
 unfold argsOk;rw [signature?_of (id:="set_iterator.__iter__") (n:=['_','_','r','e','t','i','_','_']) (o:=['r','o','t','a','r','e','t','i','_','t','e','s']) (by kernel_rfl) zp5];kernel_rfl
section
variable {prog:Program} {w:World} {A:Around} {E:Value->Shared->Prop} {s:Shared}
inductive Mode (w:World) (a T:Addr) (es:Array (Int × Value)) (ep:Nat) (t:SetTable) (vs:List Value) (i:Nat) (h:Heap):Value->Prop
 | drawn (ps:List Nat) (n:Nat):h.get? T=some { cls:=.type "tuple",data:=.seq (ps.map fun p:Nat=>rawInt p).toArray n }->vs=ps.map (fun p=>(es.toList.getD p (0,.none)).2)->(∀ p∈ps,p<es.size)->Mode w a T es ep t vs i h (.ref T)
 | text (k:Nat):w.params.followText "set-order"=true->vs=(pickOrder (w.params.setOrder a ep) es).toList.map (·.2)->Mode w a T es ep t vs i h (rawInt k)
 | led (k:Nat):w.params.followText "set-order"=false->(!t.plain && decide (es.size > 1))=false->(!t.led && !es.isEmpty)=false->t.place.toList.Pairwise (·<·)->SetTable.below t.place k=i->vs=es.toList.map (·.2)->Mode w a T es ep t vs i h (rawInt k)
theorem Mode.at {a T:Addr} {es:Array (Int × Value)} {ep:Nat} {t:SetTable} {vs:List Value} {i:Nat} {h h':Heap} {v:Value} (x:Mode w a T es ep t vs i h v) (k:∀ o,h.get? T=some o->h'.get? T=some o):Mode w a T es ep t vs i h' v:=by
 cases x with
 | drawn ps n e e1 e2=>exact .drawn ps n (k _ e) e1 e2
 | text k e e1=>exact .text k e e1
 | led k e e1 e2 e3 e4 e5=>exact .led k e e1 e2 e3 e4 e5
noncomputable def zsd (first:Value) (i:Nat) (a:Addr) (n ep:Nat):Obj:={ cls:=.type "set_iterator",data:=.fields #[first,.int i 0,.ref a,.int n 0,.int ep 0] }
structure SIt (w:World) (a T I:Addr) (es:Array (Int × Value)) (ep:Nat) (t:SetTable) (vs:List Value) (i:Nat) (h:Heap):Prop where
 set:h.get? a=some (zcr es ep t)
 fits:t.fits es.size=true
 len:vs.length=es.size
 it:∃ first,h.get? I=some (zsd first i a es.size ep)/\Mode w a T es ep t vs i h first
theorem zt1 {a T I:Addr} {es:Array (Int × Value)} {ep:Nat} {t:SetTable} {vs:List Value} {i:Nat} {Q:Value->Shared->Prop} (st:SIt w a T I es ep t vs i s.heap) (h:Q (.ref I) s):wpAny (model prog w) A (pyIter (.ref I)) Q E s:=by
 obtain ⟨first,e,_⟩:=st.it
 have hT:s.TypeIs (.ref I) "set_iterator":=⟨_,e,rfl⟩
 refine wpAny_pyIter_slot hT zf8 (wpAny_call_entry zf8 hT zla ?_ (zm5 _))
 show wpAny _ _ (ret (.ref I)) _ _ s
 exact wpAny_pure ⟨_,rfl,"set_iterator",_,hT,slot_si_next.lookup,h⟩
theorem zu5 {I a:Addr} {first x:Value} {i n ep j:Nat} {h:Heap} (e:h.get? I=some (zsd first i a n ep)):(h.update I (Obj.mapFields (·.setIfInBounds j x))).get? I=some { cls:=.type "set_iterator",data:=.fields (#[first,.int i 0,.ref a,.int n 0,.int ep 0].setIfInBounds j x) }:=
 Heap.get?_update_self (Obj.mapFields (·.setIfInBounds j x)) e rfl
theorem zn9 {a T:Addr} {es:Array (Int × Value)} {ep:Nat} {t:SetTable} {vs:List Value} {i k:Nat} {Q:Option (Value × Nat)->Shared->Prop} (hset:s.heap.get? a=some (zcr es ep t)) (hf:t.fits es.size=true) (M:Mode w a T es ep t vs i s.heap (rawInt k))
  (h:∀ k',(∀ v,vs[i]?=some v->∀ h',Mode w a T es ep t vs (i+1) h' (rawInt ((k':Nat):Int)))->Q ((vs[i]?).map fun v=>(v,k')) s):wpAny (model prog w) A (setNext a k i ep) Q E s:=by
 have hd:(zcr es ep t).data=.set es ep t:=rfl
 unfold setNext setsByText
 refine wpAny_bind (wpAny_setState_of hset hd hf (wpAny_bind (wpAny_bind (wpAny_askSetting (wpAny_pure ?_)))))
 show wpAny _ _ (if w.params.followText "set-order"=true then _ else _) _ _ _
 generalize hr:rawInt (k:Int)=first at M
 cases M with
 | drawn ps n=>cases hr
 | text k' e1 e2=>
  rw [if_pos e1,if_neg (by simp)]
  unfold setWalk setsByText
  refine wpAny_bind (wpAny_bind (wpAny_setState_of hset hd hf (wpAny_bind (wpAny_bind (wpAny_askSetting (wpAny_pure ?_))))))
  show wpAny _ _ (if w.params.followText "set-order"=true then _ else _) _ _ _
  rw [if_pos e1]
  refine wpAny_bind (wpAny_askSetting (wpAny_pure (wpAny_pure ?_)))
  have hg:((pickOrder (w.params.setOrder a ep) es)[i]?).map (fun e=>(e.2,k))=(vs[i]?).map fun v=>(v,k):=by
   rw [e2,List.getElem?_map,Array.getElem?_toList,Option.map_map];rfl
  show Q (((pickOrder (w.params.setOrder a ep) es)[i]?).map (fun e=>(e.2,k))) s
  rw [hg]
  exact h k fun v z1 h'=>.text k e1 e2
 | led k' e1 e2 e3 e4 e5 e6=>
  obtain rfl:k'=k:=by
   have:((k:Nat):Int)=k':=(Value.int.inj hr).1
   omega
  rw [if_neg (by rw [e1];exact Bool.false_ne_true)]
  show wpAny _ _ (if (!t.plain && decide (es.size > 1))=true then _ else _) _ _ _
  rw [if_neg (by rw [e2];exact Bool.false_ne_true)]
  refine wpAny_bind ?_
  show wpAny _ _ (if (!t.led && !es.isEmpty)=true then _ else _) _ _ _
  rw [if_neg (by rw [e3];exact Bool.false_ne_true)]
  refine wpAny_pure (wpAny_pure ?_)
  have hpz:t.place.size=es.size:=by
   simp only [SetTable.fits,Bool.and_eq_true,beq_iff_eq] at hf;exact hf.1
  have hg:(match es[SetTable.below t.place k']?,t.place[SetTable.below t.place k']? with | some (_,x),some j=>some (x,j+1) | _,_=>(none:Option (Value × Nat)))=(vs[i]?).map fun v=>(v,t.place.getD i 0+1):=by
   rw [e5,e6,List.getElem?_map,Array.getElem?_toList]
   cases hq:es[i]? with
   | none=>rfl
   | some q=>
    have hpl:t.place[i]?=some (t.place.getD i 0):=by
     have:=(Array.getElem?_eq_some_iff.mp hq).1
     simp [hpz,this]
    rw [hpl];rfl
  show Q (match es[SetTable.below t.place k']?,t.place[SetTable.below t.place k']? with | some (_,x),some j=>some (x,j+1) | _,_=>(none:Option (Value × Nat))) s
  rw [hg]
  refine h _ fun v hv h'=>.led _ e1 e2 e3 e4 (zsl e4 ?_) e6
  rw [e6,List.getElem?_map] at hv
  obtain ⟨q,hq,_⟩:=Option.map_eq_some_iff.mp hv
  rw [Array.getElem?_toList] at hq
  have:=(Array.getElem?_eq_some_iff.mp hq).1
  simp [hpz,this]
theorem zxe (hh:A.handled=none) {E':Value->Shared->Prop} {P:PySem.Fin->Shared->Prop}
  (hE:∀ e h',(∀ b o,s.heap.get? b=some o->h'.get? b=some o)->Shared.TypeIs { s with heap:=h' } e "StopIteration"->E' e { s with heap:=h' }) :
  wpAny (model prog w) A.in1 (newExc (.type "StopIteration") [] >>= fun e=>(raiseNew e:Sem PySem.Fin)) P E' s:=by
 refine wpAny_bind ?_
 simp only [newExc,newTuple]
 refine wpAny_bind (wpAny_newObj_type ?_ (by size_fits))
 refine wpAny_bind (m:=firstArgMember _ _) (wpAny_of_eq (a:=Value.none) (by first | rfl | (simp only [firstArgMember];rfl)) ?_)
 refine wpAny_newObj_type ?_ (by size_fits)
 simp only [raiseNew]
 refine wpAny_bind (wpAny_handled ?_)
 rw [show A.in1.handled=none from hh]
 refine wpAny_bind (wpAny_pure (wpAny_throw ?_))
 exact hE _ _ (fun b o e=>Heap.get?_push_of_some _ (Heap.get?_push_of_some _ e)) ⟨_,Heap.get?_push_size _ rfl,rfl⟩
theorem ztx {a T I:Addr} {es:Array (Int × Value)} {ep:Nat} {t:SetTable} {vs:List Value} {i:Nat} {Q:Option Value->Shared->Prop} (hh:A.handled=none) (hI:I≠a) (hTI:T≠I) (st:SIt w a T I es ep t vs i s.heap)
  (hQ1:∀ v h',vs[i]?=some v->SIt w a T I es ep t vs (i+1) h'->Heap.SameBut I s.heap h'->Q (some v) { s with heap:=h' })
  (hQ0:∀ h',vs[i]?=none->(∀ b o,b≠I->s.heap.get? b=some o->h'.get? b=some o)->Q none { s with heap:=h' }):wpAny (model prog w) A (pyNext (.ref I)) Q E s:=by
 obtain ⟨hset,hf,hlen,first,e,M⟩:=st
 have hT:s.TypeIs (.ref I) "set_iterator":=⟨_,e,rfl⟩
 unfold pyNext
 refine wpAny_bind (wpAny_attempt (wpAny_callSpecial?_slot (name:=Str.ofString "__next__") hT slot_si_next (wpAny_call_entry slot_si_next hT zk9 ?_ (zm4 _))))
 have item:∀ (v:Value) (first':Value) (h1:Heap) (R:PySem.Fin->Shared->Prop) (E':Value->Shared->Prop),vs[i]?=some v->h1.get? I=some (zsd first' i a es.size ep)->Heap.SameBut I s.heap h1->(∀ h',(∀ o,s.heap.get? T=some o->h'.get? T=some o)->Mode w a T es ep t vs (i+1) h' first')->
   (∀ h',Q (some v) { s with heap:=h' }->R (.done (.ret v)) { s with heap:=h' })->wpAny (model prog w) A.in1 (setField (.ref I) 1 (rawInt ((i:Int)+1)) >>= fun z1=>ret v) R E' { s with heap:=h1 }:=by
  intro v first' h1 R E' hv e1 sb1 M1 hR
  refine wpAny_bind (wpAny_setField (s:={ s with heap:=h1 }) e1 rfl (by simp [zsd]) ?_)
  have sb2:Heap.SameBut I s.heap (h1.update I (Obj.mapFields (·.setIfInBounds 1 (rawInt ((i:Int)+1))))):=sb1.trans (Heap.SameBut.update ..)
  refine wpAny_pure (hR _ (hQ1 v _ hv ⟨(sb2.2 a hI.symm).trans hset,hf,hlen,first',?_,M1 _ fun o q=>(sb2.2 T hTI).trans q⟩ sb2))
  rw [zu5 e1]
  rfl
 have fin:∀ (h1:Heap) (R:PySem.Fin->Shared->Prop) (E':Value->Shared->Prop),vs[i]?=none->Heap.SameBut I s.heap h1->(∀ x h',Q none { s with heap:=h' }->Shared.TypeIs { s with heap:=h' } x "StopIteration"->E' x { s with heap:=h' })->
   (∃ o f,h1.get? I=some o/\o.data=.fields f/\f.size=5)->wpAny (model prog w) A.in1 (setField (.ref I) 2 .none >>= fun z1=>newExc (.type "StopIteration") [] >>= fun e=>(raiseNew e:Sem PySem.Fin)) R E' { s with heap:=h1 }:=by
  intro h1 R E' hv sb hE ⟨o,f,e1,e2,e3⟩
  refine wpAny_bind (wpAny_setField (s:={ s with heap:=h1 }) e1 e2 (by rw [e3];decide) ?_)
  refine zxe hh fun x h' k q=>hE x h' (hQ0 h' hv fun b o hb eb=>k b o ?_) q
  have sb2:=sb.trans (Heap.SameBut.update h1 I (Obj.mapFields (·.setIfInBounds 2 Value.none)))
  exact (sb2.2 b hb).trans eb
 have last:∀ x h',Q none { s with heap:=h' }->Shared.TypeIs { s with heap:=h' } x "StopIteration"->
   wpAny (model prog w) A (match (Except.error x:Except Value (Option Value)) with
    | .ok (some v)=>pure (some v)
    | .ok none=>unsupported "iter:the-iterator's-class-has-lost-its-__next__-amid-the-walk"
    | .error e=>do if ← isInstance e (.type "StopIteration") then pure none else throw e) Q E { s with heap:=h' }:=
  fun x h' k q=>wpAny_bind (wpAny_isInstance (T:="StopIteration") (b:=true) q isSubtype_stop (wpAny_pure k))
 unfold Builtin.«set_iterator.__next__»
 refine wpAny_bind (wpAny_pure ?_)
 refine wpAny_bind (wpAny_fieldsOf e rfl ?_)
 show wpAny _ _ (setEntries a >>= _) _ _ s
 refine wpAny_bind (wpAny_setEntries_of hset rfl hf ?_)
 rw [if_neg (by simp)]
 have go:∀ k:Nat,first=rawInt k->∀ (R:PySem.Fin->Shared->Prop) (E':Value->Shared->Prop),(∀ v h',Q (some v) { s with heap:=h' }->R (.done (.ret v)) { s with heap:=h' })->(∀ x h',Q none { s with heap:=h' }->Shared.TypeIs { s with heap:=h' } x "StopIteration"->E' x { s with heap:=h' })->
   wpAny (model prog w) A.in1 (setNext a k i ep >>= fun r=>match r with
    | some (x,next)=>setField (.ref I) 0 (rawInt next) >>= fun z1=>setField (.ref I) 1 (rawInt ((i:Int)+1)) >>= fun z1=>ret x
    | none=>setField (.ref I) 2 .none >>= fun z1=>newExc (.type "StopIteration") [] >>= fun e=>(raiseNew e:Sem PySem.Fin)) R E' s:=by
  intro k hk R E' h1 h2
  refine wpAny_bind (zn9 hset hf (hk ▸ M) fun k' hk'=>?_)
  cases hv:vs[i]? with
  | some v=>
   refine wpAny_bind (wpAny_setField e rfl (by simp [zsd]) ?_)
   refine item v (rawInt ((k':Nat):Int)) _ R E' hv ?_ (Heap.SameBut.update ..) (fun h' z1=>hk' v hv h') (h1 v)
   rw [zu5 e];rfl
  | none=>exact fin s.heap R E' hv (Heap.SameBut.refl ..) h2 ⟨_,_,e,rfl,rfl⟩
 cases M with
 | drawn ps n hTt e1 e2=>
  clear go
  show wpAny _ _ (seqItems? (.ref T) >>= _) _ _ s
  refine wpAny_bind (wpAny_seqItems hTt rfl ?_)
  dsimp only
  have hpi:(ps.map fun p:Nat=>rawInt p).toArray[(i:Int).toNat]?=(ps[i]?).map fun p:Nat=>rawInt p:=by simp
  rw [hpi]
  cases hp:ps[i]? with
  | none=>
   refine wpAny_bind (wpAny_setField e rfl (by simp [zsd]) ?_)
   exact fin _ _ _ (by rw [e1,List.getElem?_map,hp];rfl) (Heap.SameBut.update ..) last ⟨_,_,zu5 e,rfl,rfl⟩
  | some p=>
   have hpl:=e2 p (List.mem_of_getElem? hp)
   show wpAny _ _ (setNextDrawn a (p:Int).toNat (ep:Int).toNat >>= _) _ _ s
   refine wpAny_bind ?_
   unfold setNextDrawn
   refine wpAny_bind (wpAny_setState_of hset rfl hf ?_)
   dsimp only
   rw [if_neg (by simp)]
   have hes:es[(p:Int).toNat]?=some ((es.toList.getD p (0,.none)).1,(es.toList.getD p (0,.none)).2):=by simp [hpl]
   rw [hes]
   refine wpAny_pure ?_
   exact item _ (.ref T) s.heap _ _ (by rw [e1,List.getElem?_map,hp];rfl) e (Heap.SameBut.refl I s.heap) (fun h' k=>.drawn ps n (k _ hTt) e1 e2) fun h' q=>⟨_,rfl,wpAny_pure q⟩
 | text k e1 e2=>exact go k rfl _ _ (fun v h' q=>⟨_,rfl,wpAny_pure q⟩) last
 | led k e1 e2 e3 e4 e5 e6=>exact go k rfl _ _ (fun v h' q=>⟨_,rfl,wpAny_pure q⟩) last
theorem Walks.setIt (hh:A.handled=none) {a T I:Addr} (hI:I≠a) (hTI:T≠I) {es:Array (Int × Value)} {ep:Nat} {t:SetTable} {vs:List Value} :
  Walks prog w A I [I,a,T] [I] es.size (fun i v=>vs[i]?=some v) (fun i h=>SIt w a T I es ep t vs i h) where
 sub:=fun b hb=>by simp at hb;simp [hb]
 frame:=fun i h h' st hk=>by
  obtain ⟨hset,hf,hlen,first,e,M⟩:=st
  exact ⟨hk a (by simp) _ hset,hf,hlen,first,hk I (by simp) _ e,M.at fun o q=>hk T (by simp) o q⟩
 item:=fun i s Q E hi st hQ=>ztx hh hI hTI st (fun v h' hv st' sb=>hQ v h' s.toks hv st' fun b o hb e=>(sb.2 b (fun q=>hb (by simp [q]))).trans e) fun h' hv z1=>by
  rw [List.getElem?_eq_none_iff,st.len] at hv;exact absurd hi (Nat.not_lt.mpr hv)
 done:=fun s Q E st hQ=>ztx hh hI hTI st (fun v h' hv z1 z2=>by
  have:=(List.getElem?_eq_some_iff.mp hv).1
  rw [st.len] at this;exact absurd this (Nat.lt_irrefl _)) fun h' z1 k=>hQ h' s.toks fun b o hb e=>k b o (fun q=>hb (by simp [q])) e
 self:=fun i s Q E st hQ=>zt1 st hQ
end
end Mine
end
section
namespace Mine
open PySem
section
variable {prog:Program} {w:World} {A:Around} {E:Value->Shared->Prop} {s:Shared}
theorem zrw {a:Addr} {es:Array (Int × Value)} {ep:Nat} {t:SetTable} {Q:Value->Shared->Prop} (ho:s.heap.get? a=some (zcr es ep t)) (hf:t.fits es.size=true) (hz:es.size<=sizeLine)
  (hled:t.led=!(w.params.followText "set-order")) (hr:t.plain=false\/t.place.toList.Pairwise (·<·))
  (hQ:∀ I T vs h' d,I≠a->T≠I->s.heap.get? I=none->(∀ b o,s.heap.get? b=some o->h'.get? b=some o)->(T=a\/s.heap.get? T=none)->vs.Perm (es.toList.map (·.2))->SIt w a T I es ep t vs 0 h'->Q (.ref I) { s with heap:=h',drawn:=d }) :
  wpAny (model prog w) A (pyIter (.ref a)) Q E s:=by
 have hT:s.TypeIs (.ref a) "set":=⟨_,ho,rfl⟩
 have hd:(zcr es ep t).data=.set es ep t:=rfl
 have hlt:=Heap.lt_size ho
 refine wpAny_pyIter_slot hT F.slot_set_iter (wpAny_call_entry F.slot_set_iter hT zi7 ?_ (F.args_set_iter_1 _))
 unfold Builtin.«frozenset.__iter__» Builtin.Frozenset.slot0 Builtin.Frozenset.sizeOf setDrawn setsByText
 refine wpAny_bind (wpAny_bind (wpAny_pure (wpAny_pure ?_)))
 refine wpAny_bind (wpAny_bind (wpAny_setEntries_of ho hd hf (wpAny_pure ?_)))
 refine wpAny_bind (wpAny_bind (wpAny_setState_of ho hd hf ?_))
 refine wpAny_bind (wpAny_bind (wpAny_askSetting (wpAny_pure ?_)))
 refine wpAny_pure ?_
 show wpAny _ _ (if (!w.params.followText "set-order" && (!t.plain && decide (es.size > 1)))=true then _ else _) _ _ _
 have none_of:∀ (h:Heap) (o:Obj) b,h.objs.size<=b->h.get? b=none:=fun h z1 b q=>Heap.get?_none_of_le q
 cases hc:(!w.params.followText "set-order" && (!t.plain && decide (es.size > 1))) with
 | true=>
  rw [if_pos rfl]
  refine wpAny_bind (zqu es.size _ s (List.length_range ..) fun ps d hp=>?_)
  refine wpAny_bind (wpAny_newTuple ?_ (by rw [List.length_map,hp.length_eq,List.length_range];exact hz))
  have hTn:(s.heap.push { cls:=.type "tuple",data:=.seq (ps.map fun i:Nat=>rawInt i).toArray }).get? s.heap.objs.size=some { cls:=.type "tuple",data:=.seq (ps.map fun i:Nat=>rawInt i).toArray }:=Heap.get?_push_size _ rfl
  have ho2:=Heap.get?_push_of_some (h:=s.heap) { cls:=.type "tuple",data:=.seq (ps.map fun i:Nat=>rawInt i).toArray } ho
  refine wpAny_bind (wpAny_setEpoch_of (s:={ s with heap:=s.heap.push { cls:=.type "tuple",data:=.seq (ps.map fun i:Nat=>rawInt i).toArray },drawn:=d }) ho2 hd hf ?_)
  refine wpAny_bind (wpAny_newObj_type ?_)
  refine wpAny_pure ⟨_,rfl,"set_iterator",_,⟨_,Heap.get?_push_size _ rfl,rfl⟩,slot_si_next.lookup,?_⟩
  have hsz:(s.heap.push { cls:=.type "tuple",data:=.seq (ps.map fun i:Nat=>rawInt i).toArray }).objs.size=s.heap.objs.size+1:=Heap.size_push ..
  refine hQ _ s.heap.objs.size (ps.map fun p=>(es.toList.getD p (0,.none)).2) _ d ?_ ?_ ?_ (fun b o e=>Heap.get?_push_of_some _ (Heap.get?_push_of_some _ e)) (.inr (Heap.get?_none_of_le (Nat.le_refl _))) ?_ ⟨Heap.get?_push_of_some _ ho2,hf,by rw [List.length_map,hp.length_eq,List.length_range],.ref s.heap.objs.size,?_,.drawn ps 0 (Heap.get?_push_of_some _ hTn) rfl fun p hpp=>List.mem_range.mp (hp.mem_iff.mp hpp)⟩
  ·rw [hsz];exact Nat.ne_of_gt (Nat.lt_succ_of_lt hlt)
  ·rw [hsz];exact Nat.ne_of_lt (Nat.lt_succ_self _)
  ·rw [hsz];exact Heap.get?_none_of_le (Nat.le_succ _)
  ·refine (hp.map _).trans (List.Perm.of_eq ?_)
   apply List.ext_getElem
   ·simp
   ·intro i h1 h2
    simp at h1
    simp [h1]
  ·exact Heap.get?_push_size _ rfl
 | false=>
  rw [if_neg Bool.false_ne_true]
  refine wpAny_bind (wpAny_pure ?_)
  refine wpAny_bind (wpAny_setEpoch_of ho hd hf ?_)
  refine wpAny_bind (wpAny_newObj_type ?_)
  refine wpAny_pure ⟨_,rfl,"set_iterator",_,⟨_,Heap.get?_push_size _ rfl,rfl⟩,slot_si_next.lookup,?_⟩
  have key:∀ vs:List Value,vs.Perm (es.toList.map (·.2))->(∀ h',Mode w a a es ep t vs 0 h' (rawInt ((0:Nat):Int)))->Q (.ref s.heap.objs.size) { s with heap:=s.heap.push { cls:=.type "set_iterator",data:=.fields [rawInt 0,rawInt 0,.ref a,rawInt es.size,rawInt ep].toArray } }:=fun vs p M=>by
   refine hQ _ a vs _ s.drawn (Nat.ne_of_gt hlt) (Nat.ne_of_lt hlt) (Heap.get?_none_of_le (Nat.le_refl _)) (fun b o e=>Heap.get?_push_of_some _ e) (.inl rfl) p ⟨Heap.get?_push_of_some _ ho,hf,by rw [p.length_eq,List.length_map,Array.length_toList],rawInt ((0:Nat):Int),Heap.get?_push_size _ rfl,M _⟩
  cases hw:w.params.followText "set-order" with
  | true=>exact key _ ((zt3 _ es).map (·.2)) fun h'=>.text 0 hw rfl
  | false=>
   rw [hw] at hc hled
   simp only [Bool.not_false,Bool.true_and] at hc hled
   have hs:t.place.toList.Pairwise (·<·):=hr.elim (fun q=>by
    rw [q] at hc
    simp only [Bool.not_false,Bool.true_and,decide_eq_false_iff_not] at hc
    have hpz:t.place.size=es.size:=by
     simp only [SetTable.fits,Bool.and_eq_true,beq_iff_eq] at hf;exact hf.1
    rw [List.pairwise_iff_getElem]
    intro i j hi hj hij
    simp at hi hj
    omega) id
   exact key _ (.refl _) fun h'=>.led 0 hw hc (by rw [hled];rfl) hs (zsk hs) rfl
theorem zx9 {a:Addr} {Q:Bool->Shared->Prop} (hT:s.TypeIs (.ref a) "set") (h:Q false s):wpAny (model prog w) A (Builtin.List.listLengthHint (.ref a)) Q E s:=by
 unfold Builtin.List.listLengthHint
 refine wpAny_bind (wpAny_specialOf hT F.slot_set_len.lookup ?_)
 generalize hid:("set.__len__":String)=id0
 wp_delta
 rw [show splitId id0=some ("set","__len__") from by subst hid;decide +kernel]
 subst hid
 refine wpAny_bind (wpAny_isInstance (T:="set") (b:=true) hT (by rw [isSubtype_type];kernel_rfl) ?_)
 refine wpAny_ite_split (fun hab=>absurd hab (by decide)) (fun z1=>?_)
 refine wpAny_ite_split (fun z1=>?_) (fun hab=>absurd (by decide +kernel) hab)
 exact wpAny_bind (wpAny_typeOf hT (wpAny_pure h))
theorem zve {a:Addr} {Q:Bool->Shared->Prop} (hT:s.TypeIs (.ref a) "dict") (h:Q false s):wpAny (model prog w) A (Builtin.List.listLengthHint (.ref a)) Q E s:=by
 unfold Builtin.List.listLengthHint
 refine wpAny_bind (wpAny_specialOf hT F.slot_dict_len.lookup ?_)
 generalize hid:("dict.__len__":String)=id0
 wp_delta
 rw [show splitId id0=some ("dict","__len__") from by subst hid;decide +kernel]
 subst hid
 refine wpAny_bind (wpAny_isInstance (T:="dict") (b:=true) hT (by rw [isSubtype_type];kernel_rfl) ?_)
 refine wpAny_ite_split (fun hab=>absurd hab (by decide)) (fun z1=>?_)
 refine wpAny_ite_split (fun z1=>?_) (fun hab=>absurd (by decide +kernel) hab)
 exact wpAny_bind (wpAny_typeOf hT (wpAny_pure h))
theorem zh8 {D:Addr} {T:String} (hTt:T="dict"\/T="set") (hT:∀ h',(∀ b o,s.heap.get? b=some o->h'.get? b=some o)->Shared.TypeIs { s with heap:=h' } (.ref D) T) {n:Nat} (hn:n<=sizeLine) {Good:(Nat->Value->Prop)->Prop} {Q:List Value->Shared->Prop}
  (hint:∀ (s1:Shared) (Q':Bool->Shared->Prop) (E':Value->Shared->Prop),s1.TypeIs (.ref D) T->Q' false s1->wpAny (model prog w) A.in1 (Builtin.List.listLengthHint (.ref D)) Q' E' s1)
  (iter:∀ (h1:Heap) (Q':Value->Shared->Prop) (E':Value->Shared->Prop),(∀ b o,s.heap.get? b=some o->h1.get? b=some o)->(∀ (I:Addr) (fp:List Addr) (P:Nat->Value->Prop) (St:Nat->Heap->Prop) (h2:Heap) (d:Drawn),Walks prog w A.in1 I fp [I] n P St->St 0 h2->(∀ b∈fp,(∃ o,s.heap.get? b=some o)\/h1.get? b=none)->h1.get? I=none->(∀ b o,h1.get? b=some o->h2.get? b=some o)->Good P->Q' (.ref I) { s with heap:=h2,drawn:=d })->
   wpAny (model prog w) A.in1 (pyIter (.ref D)) Q' E' { s with heap:=h1 })
  (hQ:∀ h' d tk acc P,Good P->(∀ b o,s.heap.get? b=some o->h'.get? b=some o)->ItemsOf P acc n->Q acc.toList { s with heap:=h',drawn:=d,toks:=tk }):wpAny (model prog w) A (collect (.ref D)) Q E s:=by
 unfold collect
 refine wpAny_bind (wpAny_runValue (codeAny_builtin F.entry_proto_collect ?_))
 rw [Around.under_plainId F.plain_proto_collect _]
 show wpAny _ A.in1 (newList [] >>= fun l=>again (.builtin "list.__iadd__" ⟨[l,.ref D],[]⟩)) _ _ s
 refine wpAny_bind (wpAny_newObj_type ?_)
 refine wpAny_pure ⟨plainId_quiet F.plain_list_iadd _,codeAny_builtin F.entry_list_iadd ?_⟩
 rw [Around.under_plainId F.plain_list_iadd _]
 show wpAny _ A.in1 (Builtin.List.listExtendWith (.ref s.heap.objs.size) (.ref D) (.ref s.heap.objs.size)) _ _ _
 unfold Builtin.List.listExtendWith
 have hx1:∀ b o,s.heap.get? b=some o->(s.heap.push { cls:=.type "list",data:=.seq ([]:List Value).toArray }).get? b=some o:=fun b o e=>Heap.get?_push_of_some _ e
 have hT1:=hT _ hx1
 refine wpAny_bind (wpAny_typeOf hT1 ?_)
 have hDlt:D<s.heap.objs.size:=by
  obtain ⟨o,e,_⟩:=hT s.heap fun z1 z2 e=>e
  exact Heap.lt_size e
 have h1:Builtin.List.listSameRef (.ref s.heap.objs.size) (.ref D)=false:=beq_eq_false_iff_ne.mpr (Nat.ne_of_gt hDlt)
 have h2:(Value.type T == Value.type "list")=false/\(Value.type T == Value.type "tuple")=false:=by rcases hTt with rfl | rfl <;> decide
 simp only [h1,h2.1,h2.2,Bool.or_false,Bool.false_eq_true,if_false]
 refine wpAny_bind (iter _ _ _ hx1 fun I fp P St h2 d W st hfp hI hx2 good=>?_)
 have hx12:∀ b o,s.heap.get? b=some o->h2.get? b=some o:=fun b o e=>hx2 b o (hx1 b o e)
 refine wpAny_bind (wpAny_holding (hint { s with heap:=h2,drawn:=d } _ _ ?_ ?_))
 ·obtain ⟨o,e,c⟩:=hT h2 hx12
  exact ⟨o,e,c⟩
 have hS0:(s.heap.push { cls:=.type "list",data:=.seq ([]:List Value).toArray }).get? s.heap.objs.size=some { cls:=.type "list",data:=.seq ([]:List Value).toArray }:=Heap.get?_push_size _ rfl
 have hS₁:=hx2 _ _ hS0
 have hSf:s.heap.objs.size∉fp:=fun hm=>by
  rcases hfp _ hm with ⟨o,e⟩ | e
  ·exact absurd (Heap.lt_size e) (Nat.lt_irrefl _)
  ·rw [hS0] at e;cases e
 have hSI:s.heap.objs.size≠I:=fun q=>by rw [q] at hS0;rw [hS0] at hI;cases hI
 have hany:(["set","frozenset","dict","dict_keys","dict_values","dict_items"].any fun x=>Value.type T == Value.type x)=true:=by rcases hTt with rfl | rfl <;> decide
 show wpAny _ A.in1 (if (false || (["set","frozenset","dict","dict_keys","dict_values","dict_items"].any fun x=>Value.type T == Value.type x))=true then _ else _) _ _ _
 rw [if_pos (by rw [hany];rfl)]
 refine wpAny_bind (wpAny_rule ?_)
 refine wpAny_bind ?_
 show wpAny _ A.in1 (updateSeq s.heap.objs.size (·.push .none) >>= fun z1=>updateSeq s.heap.objs.size (·.pop)) _ _ _
 refine wpAny_bind (wpAny_updateSeq hS₁ rfl ?_)
 have hS₂:=Heap.get?_update_self (Obj.mapSeq (·.push Value.none)) hS₁ rfl
 refine wpAny_updateSeq hS₂ rfl ?_
 have hS₃:=Heap.get?_update_self (Obj.mapSeq (·.pop)) hS₂ rfl
 have oth:∀ b o,b≠s.heap.objs.size->h2.get? b=some o->((h2.update s.heap.objs.size (Obj.mapSeq (·.push Value.none))).update s.heap.objs.size (Obj.mapSeq (·.pop))).get? b=some o:=
  fun b o hb e=>(Heap.get?_update_other _ _ (Ne.symm hb)).trans ((Heap.get?_update_other _ _ (Ne.symm hb)).trans e)
 refine wpAny_pure ⟨plainId_quiet F.plain_extend_loop _,codeAny_extend_loopS W.toS hn _ hSf _ n 0 _ _ _ rfl (Nat.zero_le _) (W.frame 0 h2 _ st fun b hb o e=>oth b o (fun h=>hSf (h ▸ hb)) e) hS₃ (ItemsOf.nil P) fun s' acc' c' hm hS' hacc=>?_⟩
 show wpAny _ A (load s.heap.objs.size >>= _) _ _ s'
 refine wpAny_bind (wpAny_load hS' ?_)
 obtain ⟨h',g',d',tk',os'⟩:=s'
 have eg:g'=s.gens:=hm.gens
 have eo:os'=s.os:=hm.os
 subst eg;subst eo
 refine wpAny_pure (hQ h' d' tk' acc' P good (fun b o e=>?_) hacc)
 have hb1:b≠s.heap.objs.size:=Nat.ne_of_lt (Heap.lt_size e)
 refine hm.heap b o (by
  simp only [List.mem_cons,List.not_mem_nil,or_false,not_or]
  exact ⟨hb1,fun q=>by rw [← q,hx1 b o e] at hI;cases hI⟩) (oth b o hb1 (hx12 b o e))
end
end Mine
end
section
namespace Mine
open PySem PyProof.Rows
variable {c:Cx} {d:Nat} {sc:Scope} {m:zaf} {σ:Led} {P:V->Led->Prop} {X:XP} {K:Fl->zaf->Led->Prop}
theorem zgx (hh:c.k.hd=true) {ks:List Int} (hks:ks.length<Tim.sortLid) (h:∀ ys:List Int,ys.Perm ks->P (.lst (ys.map .int)) σ) :
  CallS c d (.builtin "sorted") [.set (!(c.k.w.params.followText "set-order")) (ks.map .int)] σ P X:=by
 intro A s E cs hA st rs _
 obtain ⟨x,rfl,r⟩:=rs.un1
 simp only [VRel] at r
 obtain ⟨a,es,ep,t,rfl,ha,ho,⟨q1,q2,q3,q4⟩,rs⟩:=r
 refine zhl (Us:=fun us=>us.Perm ks) st hks (fun us q=>q.length_eq) (fun Q' E' hq=>?_) fun us ys q hp z1=>h ys (hp.trans q)
 refine zh8 (D:=a) (T:="set") (n:=es.size) (Good:=fun P=>∃ vs:List Value,vs.Perm (es.toList.map (·.2))/\P=fun i v=>vs[i]?=some v) (.inr rfl) (fun h' hx=>⟨_,hx _ _ ho,rfl⟩) q2 (fun s1 Q1 E1 hT q=>zx9 hT q) (fun h1 Q1 E1 hx k=>?_) (fun h' d tk acc P' hg hx hacc=>?_)
 ·refine zrw (s:={ s with heap:=h1 }) (hx _ _ ho) q1 q2 q3 q4 fun I T vs h' d hI hTI hn hx2 hT hp S=>?_
  refine k I [I,a,T] (fun i v=>vs[i]?=some v) _ h' d (Walks.setIt (by simp [hA.handled hh]) hI hTI) S (fun b hb=>?_) hn hx2 ⟨vs,hp,rfl⟩
  simp only [List.mem_cons,List.not_mem_nil,or_false] at hb
  rcases hb with rfl | rfl | rfl
  ·exact .inr hn
  ·exact .inl ⟨_,ho⟩
  ·rcases hT with rfl | hT
   ·exact .inl ⟨_,ho⟩
   ·exact .inr hT
 ·obtain ⟨vs,hp,rfl⟩:=hg
  have hv:acc.toList=vs:=by
   apply List.ext_getElem?
   intro i
   have hlen:vs.length=es.size:=by rw [hp.length_eq,List.length_map,Array.length_toList]
   rw [Array.getElem?_toList]
   cases e:acc[i]? with
   | some v=>exact (hacc.2 i v e).symm
   | none=>
    rw [Array.getElem?_eq_none_iff,hacc.1] at e
    rw [List.getElem?_eq_none (by rw [hlen];exact e)]
  obtain ⟨us,hu,hr⟩:=VRels.perm hp rs
  rw [hv]
  exact hq h' d tk vs us hx hu (VRels.mono (Ext.kept hx) .refl _ _ hr)
theorem znr (hh:c.k.hd=true) {xs:List Int} {lv:V} (hl:IsLst σ lv (xs.map .int)) (hz:xs.length<=1000) (h:∀ ks:List Int,ks.Nodup->(∀ k,k∈ks ↔ k∈xs)->P (.set (!(c.k.w.params.followText "set-order")) (ks.map .int)) σ):CallS c d (.type "set") [lv] σ P X:=by
 intro A s E cs hA st rs _
 obtain ⟨x,rfl,r⟩:=rs.un1
 have hq:=hl.plain st r
 (try clear rs)
 obtain ⟨a,vs,rfl,p,hsz,rs⟩:=hq
 have hlen:=rs.length
 rw [List.length_map] at hlen
 have hat:∀ i v,vs.toArray[i]?=some v->∃ t,v=.int (xs.getD i 0) t/\i<xs.length:=fun i v e=>by
  have hi:i<xs.length:=by
   rw [List.getElem?_toArray] at e
   rw [← hlen];exact (List.getElem?_eq_some_iff.mp e).1
  obtain ⟨cb,hcb,rb⟩:=rs.get (i:=i) (v:=.int xs[i]) (by simp [hi])
  rw [List.getElem?_toArray,hcb] at e
  cases e
  simp only [VRel] at rb
  obtain ⟨t,rfl⟩:=rb
  exact ⟨t,by simp [hi],hi⟩
 refine zys (knd:=PySem.intKind c.k.prog c.k.w) (fun i=>xs.getD i 0) (hA.handled hh) p.isList (fun i v e=>?_) (by rw [List.size_toArray,hlen];unfold scanBound;omega) fun h' tk kvs hS hq hx=>?_
 ·obtain ⟨t,rfl,_⟩:=hat i v e
  exact ⟨intKind_is _ _ _ t,rfl⟩
 obtain ⟨es,ep,t,ho,S⟩:=hS
 have hno:s.heap.objs.size∉zah c σ:=st.newS
 have hmem:∀ k,k∈kvs.map (·.1) ↔ k∈xs:=fun k=>by
  rw [hq k,List.size_toArray,hlen]
  constructor
  ·rintro ⟨j,hj,rfl⟩
   exact List.mem_of_getElem? (i:=j) (by simp [hj])
  ·intro hk
   obtain ⟨j,hj,rfl⟩:=List.mem_iff_getElem.mp hk
   exact ⟨j,hj,by simp [hj]⟩
 refine ⟨_,σ,h (kvs.map (·.1)) S.nodup hmem,.ext hx rfl rfl,st.ext hx,?_⟩
 simp only [VRel]
 refine ⟨_,es,ep,t,rfl,hno,ho,⟨S.fits,fits_of_scanBound S.size,S.led,?_⟩,?_⟩
 ·exact .inr S.rise
 ·rw [S.ent,List.map_map]
  have hk:=S.is
  clear S hmem hq ho
  induction kvs with
  | nil=>rfl
  | cons kv kvs ih=>
   simp only [List.map_cons,VRels]
   refine ⟨_,_,rfl,?_,ih fun kv' q=>hk kv' (.tail _ q)⟩
   have:=(hk kv (.head _)).1
   show VRel _ _ (.int kv.1) kv.2
   simp only [VRel]
   exact Value.isInt_shape this
theorem zcv (hh:c.k.hd=true) {a:Addr} {kvs:List (Int × V)} (hl:σ.lookup a=some (.dictI kvs)) (hz:kvs.length<Tim.sortLid) (h:∀ ys:List Int,ys.Perm (kvs.map (·.1))->(((kvs.map (·.1)).Pairwise fun a b=>a<=b)->ys=kvs.map (·.1))->P (.lst (ys.map .int)) σ) :
  CallS c d (.builtin "sorted") [.ref a] σ P X:=by
 intro A s E cs hA st rs _
 obtain ⟨x,rfl,r⟩:=rs.un1
 simp only [VRel] at r
 subst r
 obtain ⟨cs,hs,p,e,rs⟩:=st.objs _ _ (zad hl)
 obtain ⟨ep,hD⟩:∃ ep,s.heap.DictAt (PySem.intKind c.k.prog c.k.w) a cs ep:=by
  obtain ⟨o,es,ep,q⟩:=p
  exact ⟨ep,o,es,q⟩
 have hlen:cs.length=kvs.length:=by rw [← List.length_map (f:=fun x:Int × Value=>x.1),e,List.length_map]
 refine zhl (Us:=fun us=>us=kvs.map (·.1)) (n:=(kvs.map (·.1)).length) st (by rw [List.length_map];exact hz) (fun us q=>congrArg List.length q) (fun Q' E' hq=>?_) fun us ys q hp hs=>by subst q;exact h ys hp hs
 refine zh8 (D:=a) (T:="dict") (n:=cs.length) (Good:=fun P=>P=fun i v=>∃ k x,cs[i]?=some (k,x)/\(PySem.intKind c.k.prog c.k.w).is k v=true) (.inl rfl) (fun h' hx=>?_) (by rw [hlen];exact Tim.line hz) (fun s1 Q1 E1 hT q=>zve hT q) (fun h1 Q1 E1 hx k=>?_) (fun h' d tk acc P' hg hx hacc=>?_)
 ·obtain ⟨o,es,ho,hc,_⟩:=hD
  exact ⟨o,hx _ _ ho,hc.1⟩
 ·have hD1:=hD.at' (h':=h1) fun o e=>hx _ _ e
  refine wpAny_pyIter_dict (s:={ s with heap:=h1 }) hs hD1 ?_
  have hne:a≠h1.objs.size:=Nat.ne_of_lt hD1.lt_size
  refine k h1.objs.size [h1.objs.size,a] _ _ _ s.drawn (Walks.dictKeys (knd:=PySem.intKind c.k.prog c.k.w) (by simp [hA.handled hh]) _ a hne cs ep) ⟨⟨_,Heap.get?_push_size _ rfl,rfl,rfl⟩,hD1.push _⟩ (fun b hb=>?_) (Heap.get?_none_of_le (Nat.le_refl _)) (fun b o e=>Heap.get?_push_of_some _ e) rfl
  simp only [List.mem_cons,List.not_mem_nil,or_false] at hb
  rcases hb with rfl | rfl
  ·exact .inr (Heap.get?_none_of_le (Nat.le_refl _))
  ·obtain ⟨o,es,ho,_⟩:=hD
   exact .inl ⟨o,ho⟩
 ·subst hg
  refine hq h' d tk acc.toList (kvs.map (·.1)) hx rfl ?_
  rw [← e]
  have key:∀ (n:Nat) (cs:List (Int × Value)) (l:List Value),l.length=cs.length->(∀ (j:Nat) v,l[j]?=some v->∃ k x,cs[j]?=some (k,x)/\(PySem.intKind c.k.prog c.k.w).is k v=true)->VRels h' (zah c σ) ((cs.map (·.1)).map .int) l:=by
   intro n cs
   induction cs with
   | nil=>intro l hl _;rw [List.eq_nil_of_length_eq_zero hl];rfl
   | cons kv cs ih=>
    intro l hl hk
    cases l with
    | nil=>cases hl
    | cons v l=>
     simp only [List.map_cons,VRels]
     refine ⟨v,l,rfl,?_,ih l (Nat.succ.inj hl) fun j v' e=>hk (j+1) v' e⟩
     obtain ⟨k,x,e,q⟩:=hk 0 v rfl
     cases e
     simp only [VRel]
     exact Value.isInt_shape q
  exact key 0 cs acc.toList (by rw [Array.length_toList,hacc.1]) fun j v e=>hacc.2 j v (by rw [← Array.getElem?_toList];exact e)
end Mine
end
section
namespace Mine
open PySem
variable {c:Cx} {d:Nat} {sc:Scope} {m:zaf} {σ:Led} {P:V->Led->Prop} {X:XP}
theorem zh7 {A:Around} {h:Heap} {a:Addr} {kvs:List (Int × V)} (st:St c A σ h) (hl:σ.lookup a=some (.dictI kvs)):DictR c.k (intKind c.k.prog c.k.w) h (zah c σ) a kvs:=st.objs _ _ (zad hl)
theorem KR.look {κ:Type} [BEq κ] [LawfulBEq κ] [DecidableEq κ] {h:Heap} {own:List Addr} {i:κ} {v:V} {kvs:List (κ × V)} {cs:List (κ × Value)} (r:KR h own kvs cs) (hv:kvs.lookup i=some v):∃ cv,valueAt cs i=some cv/\VRel h own v cv:=by
 induction r with
 | nil=>cases hv
 | @cons p q kvs cs e r _ ih=>
  rw [show p=(p.1,p.2) from rfl,List.lookup_cons] at hv
  unfold valueAt
  rw [List.find?_cons]
  by_cases z:i=p.1
  ·rw [beq_iff_eq.mpr z] at hv
   rw [decide_eq_true (e.trans z.symm)]
   exact ⟨_,rfl,Option.some.inj hv ▸ r⟩
  ·rw [beq_eq_false_iff_ne.mpr z] at hv
   rw [decide_eq_false fun w=>z (w.symm.trans e)]
   exact ih hv
theorem zs8 {κ:Type} [BEq κ] [LawfulBEq κ] [DecidableEq κ] {h:Heap} {own:List Addr} {i:κ} {v:V} {kvs:List (κ × V)} {cs:List (κ × Value)} (e:cs.map (·.1)=kvs.map (·.1)) (r:VRels h own (kvs.map (·.2)) (cs.map (·.2))) (hv:kvs.lookup i=some v):∃ cv,valueAt cs i=some cv/\VRel h own v cv:=(KR.of e r).look hv
theorem zm8 {κ:Type} [BEq κ] [LawfulBEq κ] [DecidableEq κ] {knd:KeyKind c.k.prog c.k.w κ} {mk:List (κ × V)->O} {kv:κ->V} (D:DK c knd mk kv) {v slice:Expr} {a:Addr} {kvs:List (κ × V)} {i:κ} {w:V} (hl:σ.lookup a=some (mk kvs)) (hw:kvs.lookup i=some w) (h:P w σ) (hi:zbu slice):Op2 c d (PyProof.Rows.subscriptTail v slice) (.ref a) (kv i) σ P:=by
 intro A s E co ci hA st ro ri
 simp only [VRel] at ro;subst ro
 have hr:=st.objs _ _ (zad hl)
 rw [D.rel] at hr
 obtain ⟨cs,hs,p,e,rs⟩:=hr
 obtain ⟨cw,h1,h2⟩:=zs8 e rs hw
 refine PyProof.Rows.tail_any (T:="dict") p.typeIs PySem.F.slot_dict_getitem.lookup ?_ (hi _ _)
 exact wpAny_getItem_of (D.key _ _ _ _ ri) p.mapOf h1 (Post.same st h h2)
theorem zzo {v slice:Expr} {a:Addr} {kvs:List (Int × V)} {i:Int} {w:V} (hl:σ.lookup a=some (.dictI kvs)) (hw:kvs.lookup i=some w) (h:P w σ) (hi:zbu slice):Op2 c d (PyProof.Rows.subscriptTail v slice) (.ref a) (.int i) σ P:=zm8 DK.int hl hw h hi
theorem zd6 {a:Addr} {kvs:List (Int × V)} {i:Int} (hl:σ.lookup a=some (.dictI kvs)) (h:P (.bool (!(kvs.any fun kv=>decide (kv.1=i)))) σ):Op2 c d (compareOp .NotIn) (.int i) (.ref a) σ P:=by
 intro A s E ci co hA st ri ro
 simp only [VRel] at ro;subst ro
 obtain ⟨cs,hs,p,e,rs⟩:=zh7 st hl
 have hk:(intKind c.k.prog c.k.w).is i ci=true:=by simp only [VRel] at ri;obtain ⟨t,rfl⟩:=ri;exact intKind_is _ _ i t
 refine wpAny_notIn_of hk hs p.mapOf ?_
 have hv:(valueAt cs i).isSome=kvs.any fun kv=>decide (kv.1=i):=by
  rw [← zq4 e i];unfold valueAt
  rw [Option.isSome_map,Bool.eq_iff_iff,List.find?_isSome,List.any_eq_true]
 have hv':(valueAt cs i).isNone=!(kvs.any fun kv=>decide (kv.1=i)):=by rw [← hv];cases valueAt cs i <;> rfl
 first
 | (rw [hv'];exact ⟨_,σ,h,.toks,st,by simp only [VRel]⟩)
 | (rw [hv];exact ⟨_,σ,h,.toks,st,by simp only [VRel]⟩)
theorem zd7 {a:Addr} {kvs:List (Int × V)} (hl:σ.lookup a=some (.dictI kvs)) (hz:kvs.length<=1000) (h:P (.int kvs.length) σ):CallS c d (.builtin "len") [.ref a] σ P X:=by
 intro A s E cs hA st rs _
 obtain ⟨x,rfl,r⟩:=rs.un1
 simp only [VRel] at r;subst r
 obtain ⟨cs,hs,p,e,rs⟩:=zh7 st hl
 have hlen:cs.length=kvs.length:=by rw [← List.length_map (f:=fun x:Int × Value=>x.1),e,List.length_map]
 refine call_len_dict hs p (by rw [hlen];omega) ?_
 rw [hlen]
 exact Post.same st h (by simp only [VRel];exact ⟨_,rfl⟩)
theorem ze7 {a:Addr} {kvs:List (Int × V)} (hl:σ.lookup a=some (.dictI kvs)):zzp c σ (.ref a) "pop" "dict" "dict.pop":=by
 refine ⟨PySem.F.plainAttrs_dict,PySem.F.slot_dict_pop,PySem.F.type_dict_pop,fun A s cv st r=>?_⟩
 simp only [VRel] at r;subst r
 obtain ⟨cs,hs,p,e,rs⟩:=zh7 st hl
 refine ⟨p.typeIs,fun b q=>?_⟩
 cases q
 obtain ⟨o,es,ep,ho,hc,_⟩:=p
 exact ⟨o,ho,hc.2.1⟩
noncomputable def zi8 (i:Int) (kvs:List (Int × V)):List (Int × V):=kvs.filter fun kv=>decide (kv.1≠i)
theorem KR.drop {h:Heap} {own:List Addr} {i:Int} {kvs:List (Int × V)} {cs:List (Int × Value)} (r:KR h own kvs cs):KR h own (zi8 i kvs) (without cs i):=by
 unfold zi8 without
 induction r with
 | nil=>exact .nil
 | @cons p q kvs cs e r _ ih=>
  rw [List.filter_cons,List.filter_cons,e]
  split
  ·exact .cons e r ih
  ·exact ih
theorem zyl {h:Heap} {own:List Addr} {i:Int} {kvs:List (Int × V)} {cs:List (Int × Value)} (e:cs.map (·.1)=kvs.map (·.1)) (r:VRels h own (kvs.map (·.2)) (cs.map (·.2))) :
  (without cs i).map (·.1)=(zi8 i kvs).map (·.1)/\VRels h own ((zi8 i kvs).map (·.2)) ((without cs i).map (·.2)):=(KR.of e r).drop.both
theorem znu {a:Addr} {kvs:List (Int × V)} {i:Int} {v:V} (hl:σ.lookup a=some (.dictI kvs)) (hF:a∉c.F) (hz:kvs.length<=1000) (hv:kvs.lookup i=some v) (h:P v (upd a (.dictI (zi8 i kvs)) σ)):CallS c d (.builtin "dict.pop") [.ref a,.int i] σ P X:=by
 intro A s E cs hA st rs _
 obtain ⟨x,y,rfl,r1,r2⟩:=rs.un2
 simp only [VRel] at r1 r2;subst r1
 obtain ⟨t,rfl⟩:=r2
 obtain ⟨cs,hs,p,e,rs⟩:=zh7 st hl
 have hlen:cs.length=kvs.length:=by rw [← List.length_map (f:=fun x:Int × Value=>x.1),e,List.length_map]
 obtain ⟨cv,h1,h2⟩:=zs8 e rs hv
 refine call_meetsIn PySem.F.slot_dict_pop p.typeIs PySem.F.entry_dict_pop (PySem.F.args_dict_pop_2 _ _) (meets_dict_pop_there (intKind c.k.prog c.k.w) a (intKind_is _ _ i t) [] (.inl rfl) rfl) ⟨cs,cv,p,by rw [hlen,sizeLine_eq];omega,h1,fun h' p' k=>?_⟩
 have k':=SameBut.but k
 have haS:a∈zah c σ:=List.mem_append_right _ (za3 hl)
 obtain ⟨q1,q2⟩:=zyl (i:=i) e rs
 have hr:ORel c.k h' (zah c σ) a (.dictI (zi8 i kvs)):=⟨_,hs,p',q1,q2.carry (But.carriesHid haS k')⟩
 refine ⟨v,_,h,.upd hl rfl hF (p'.elim fun z1 q=>q.elim fun z1 q=>q.elim fun z1 q=>⟨_,q.1⟩) k',st.updO hl (O.self _ _) rfl k' hr,?_⟩
 have:zah c (upd a (.dictI (zi8 i kvs)) σ)=zah c σ:=by unfold zah;rw [zet (o:=.dictI kvs) (o':=.dictI (zi8 i kvs)) rfl hl]
 rw [this]
 exact h2.carry (But.carriesHid haS k')
theorem zwu {a:Addr} {kvs:List (Int × V)} (hl:σ.lookup a=some (.dictI kvs)) (hF:a∈c.F) (hz:kvs.length<=1000):zc6 c σ (.ref a) (kvs.map fun kv=>.int kv.1):=by
 intro A s E cv hh st r
 simp only [VRel] at r;subst r
 obtain ⟨cs,hs,p,e,rs⟩:=zh7 st hl
 obtain ⟨ep,hD⟩:∃ ep,s.heap.DictAt (intKind c.k.prog c.k.w) a cs ep:=by
  obtain ⟨o,es,ep,q⟩:=p
  exact ⟨ep,o,es,q⟩
 have hlen:cs.length=kvs.length:=by rw [← List.length_map (f:=fun x:Int × Value=>x.1),e,List.length_map]
 have hne:a≠s.heap.objs.size:=Nat.ne_of_lt hD.lt_size
 have W:=Walks.dictKeys (knd:=intKind c.k.prog c.k.w) hh s.heap.objs.size a hne cs ep
 refine wpAny_pyIter_dict hs hD ⟨_,[s.heap.objs.size,a],[s.heap.objs.size],(fun i v=>∃ k x,cs[i]?=some (k,x)/\(intKind c.k.prog c.k.w).is k v=true),(fun i h=>h.IsKeyIter s.heap.objs.size a i cs.length ep/\h.DictAt (intKind c.k.prog c.k.w) a cs ep),rfl,⟨by rw [List.length_map,← hlen];exact W,by rw [List.length_map,sizeLine_eq];omega,⟨⟨_,Heap.get?_push_size _ rfl,rfl,rfl⟩,hD.push _⟩,.push _,fun b hb=>?_,fun i h hst b hb=>?_,fun i h hst=>?_,fun b hb=>?_,fun h' own' k i v x hv hx=>?_⟩,rfl,rfl⟩
 ·rw [List.mem_singleton.mp hb];exact get?_size _
 ·rw [List.mem_singleton.mp hb]
  obtain ⟨⟨o,ho,hc,hd⟩,_⟩:=hst
  exact ⟨o,ho,⟨_,hd⟩,by rw [hc];decide⟩
 ·obtain ⟨⟨o,ho,hc,hd⟩,_⟩:=hst
  exact ⟨o,ho,.of hc (by decide)⟩
 ·rcases List.mem_cons.mp hb with q | q
  ·left;rw [q];exact .head _
  ·right;left
   rw [List.mem_singleton.mp q];exact hF
 ·obtain ⟨ky,y,hy,hk⟩:=hx
  rw [List.getElem?_map] at hv
  have h1:(cs.map (·.1))[i]?=some ky:=by rw [List.getElem?_map,hy];rfl
  rw [e,List.getElem?_map] at h1
  cases z:kvs[i]? with
  | none=>rw [z] at hv;cases hv
  | some kv=>
   rw [z] at hv h1
   cases hv;cases h1
   simp only [VRel]
   exact Value.isInt_shape hk
section
variable {prog:Program} {w:World} {A:Around} {E:Value->Shared->Prop} {h:Heap} {g:Array GenState} {dr:Drawn} {t:Nat} {os:OsState}
variable {nm q:Str} {C N:Addr} {bs:List Value} {sn:List Str} {sub:List Value} {col:Option Bool} {dd:Option Addr} {k0 k1 k2 k3 k5:Option Value}
noncomputable def zs3 (h:Heap) (C:Addr):Heap:=(h.push { cls:=.type "dict",data:=.dict #[] }).push { cls:=.ref C,dict:=some h.objs.size,data:=.plain }
theorem newI_keeps {h:Heap} {C:Addr}:Ext h (zs3 h C):=fun b o e=>Heap.get?_push_of_some _ (Heap.get?_push_of_some _ e)
theorem zvt {mN:Str->Option Value} {fI:Addr} {oI:Obj} {Q:Value->Shared->Prop}
  (hC:h.get? C=some (excClassObj nm q C N bs [.type "object"] true sn sub false col dd k0 k1 k2 k3 k5 "object.__new__")) (hn:h.Ns N mN) (hi:mN "__init__"=some (.ref fI)) (hfI:h.get? fI=some oI) (hfc:oI.cls=.type "function")
  (hq:wpAny (model prog w) (A.under (.builtin "type.__call__" ⟨[.ref C],[]⟩)) (call (.ref fI) [.ref (h.objs.size+1)]) (fun r s'=>r=.none/\Q (.ref (h.objs.size+1)) s') E ⟨zs3 h C,g,dr,t,os⟩) :
  wpAny (model prog w) A (call (.ref C) []) Q E ⟨h,g,dr,t,os⟩:=by
 have f1:=tc_lookup
 have f2:=tc_bind (.ref C)
 have hT:(⟨h,g,dr,t,os⟩:Shared).TypeIs (.ref C) "type":=⟨_,hC,rfl⟩
 have hmro:mroOf (.type "object")=pure [.type "object"]:=by kernel_rfl
 have hlk:typeLookup (.type "object") "__init__"=pure (some (.builtin "object.__init__")):=by rw [typeLookup_type,builtinLookup_eq_fast];kernel_rfl
 refine wpAny_call (codeAny_of_tree ?_)
 show wpAny _ _ (callAny (.ref C) _) _ _ _
 repeat (any_goals (first | assumption | with_reducible refine wpAny_loadPart_at hC ?_ | wp_step))
 refine ⟨rfl,?_⟩
 refine codeAny_call_builtin_at (Code.quiet_builtin _ (by decide +kernel)) entry_typeCall (wpAny_check_type_call_sub hC ?_)
 repeat (first | with_reducible refine wpAny_loadPart_at hC ?_ | with_reducible refine wpAny_madeBy_exc hC ?_ | wp_step)
 refine codeAny_call_builtin_code (Code.quiet_builtin _ PySem.F.objNew.quiet) (wpAny_check_obj_new PySem.F.objNew hC ?_)
 refine codeAny_obj_new PySem.F.objNew hC hn hi ?_
 show wpAny _ _ _ _ _ _
 have hC₁:=newI_keeps (C:=C) _ _ hC
 have hfI₁:=newI_keeps (C:=C) _ _ hfI
 have hn₁:(zs3 h C).Ns N mN:=let ⟨o,es,ep,e,r⟩:=hn;⟨o,es,ep,newI_keeps _ _ e,r⟩
 have hget:(zs3 h C).get? (h.objs.size+1)=some { cls:=.ref C,dict:=some h.objs.size,data:=.plain }:=by unfold zs3;heap_get
 have hcC:(Value.ref C::[Value.type "object"]).contains (.ref C)=true:=by simp
 change wpAny _ _ _ _ _ ⟨zs3 h C,g,dr,t,os⟩
 unfold isInstance
 repeat (first | with_reducible refine wpAny_loadPart_at hget ?_ | (with_reducible refine wpAny_isSubtype_exc hC₁ ?_;rw [hcC]) | wp_step)
 show wpAny _ _ (typeLookup (.ref C) _) _ _ _
 refine wpAny_typeLookup_exc hC₁ hn₁ hmro hlk ?_
 rw [hi]
 refine wpAny_holding (wpAny_bind ?_)
 unfold bindSpecial
 refine wpAny_bind (wpAny_typeOf (T:="function") ⟨_,hfI₁,hfc⟩ ?_)
 rw [if_pos (by decide)]
 refine wpAny_pure (wpAny_bind (wpAny_mono hq (fun r s' hr=>?_) fun z1 z2 x=>x))
 obtain ⟨rfl,hQ⟩:=hr
 wp_walk
 exact hQ
end
theorem St.under {A A':Around} {h:Heap} (st:St c A σ h) (e:A'.frames=A.frames):St c A' σ h:=
 ⟨st.keep,st.nodup,st.fresh,st.objs,by rw [e];exact st.frames,st.prot,st.hid⟩
theorem zz2 {C N fI:Addr} {mN:Str->Option Value} {oI:Obj} (K:Cls c.k C N mN) (hi:mN "__init__"=some (.ref fI)) (hfI:c.k.h0.get? fI=some oI) (hfc:oI.cls=.type "function")
  (h:∀ a dd,a∉zab σ->dd∉zab σ->a∉c.F->dd∉c.F->a≠dd->CallS c d (.ref fI) [.ref a] ((a,.inst C dd [])::σ) (fun v σ'=>v=.none/\P (.ref a) σ') X):CallS c (d+1) (.ref C) [] σ P X:=by
 intro A s E cs hA st rs hX
 simp only [VRels] at rs;subst rs
 obtain ⟨hh,g,dr,t,os⟩:=s
 obtain ⟨nm,q,bs,sn,sub,col,dd',k0,k1,k2,k3,k5,hC⟩:=ClsQ.of (K.at_.keeps st.keep)
 have hn1:hh.get? (hh.objs.size+1)=none:=Heap.get?_none_of_le (Nat.le_succ _)
 have hn0:hh.get? hh.objs.size=none:=Heap.get?_none_of_le (Nat.le_refl _)
 have hne:hh.objs.size+1≠hh.objs.size:=Nat.succ_ne_self _
 have hgx:(zs3 hh C).get? (hh.objs.size+1)=some { cls:=.ref C,dict:=some hh.objs.size,data:=.plain }:=by unfold zs3;heap_get
 have hgd:(zs3 hh C).get? hh.objs.size=some { cls:=.type "dict",data:=.dict #[] }:=Heap.get?_push_of_some _ (Heap.get?_push_at rfl rfl)
 have hns:(zs3 hh C).Ns1 hh.objs.size fun z1=>none:=Heap.Ns1.of_empty ⟨_,#[],_,hgd,rfl,fun e he=>absurd he (by simp),fun z1=>rfl⟩
 have hnew:∀ b∈(O.inst C hh.objs.size []).addrs (hh.objs.size+1),hh.get? b=none:=fun b hb=>by
  simp only [O.addrs,List.mem_cons,List.not_mem_nil,or_false] at hb
  rcases hb with rfl | rfl
  ·exact hn1
  ·exact hn0
 have st₁:St c A ((hh.objs.size+1,.inst C hh.objs.size [])::σ) (zs3 hh C):=st.alloc newI_keeps hnew (by simp [O.addrs]) ⟨_,_,hgx,rfl,rfl,rfl,Ne.symm hne,hns,(fun x v e=>by cases e),fun z1 z2=>rfl⟩
 have t₁:Step c.F (zab σ) (zab ((hh.objs.size+1,.inst C hh.objs.size [])::σ)) ⟨hh,g,dr,t,os⟩ ⟨zs3 hh C,g,dr,t,os⟩:=
  ⟨newI_keeps.kept,fun b o e=>⟨o,newI_keeps b o e⟩,fun b z1 o e=>newI_keeps b o e,.alloc hnew,rfl,rfl⟩
 refine zvt hC (K.at_.keeps st.keep).ns hi (st.keep _ _ hfI) hfc ?_
 have hfr:(A.under (.builtin "type.__call__" ⟨[.ref C],[]⟩)).frames=A.frames:=by
  obtain ⟨f1,f2,f3,f4,f5⟩:=A
  cases f3 <;> rfl
 have hA':AOk c.k d (A.under (.builtin "type.__call__" ⟨[.ref C],[]⟩)):=by
  refine ⟨hA.handled,?_,?_,?_⟩
  ·have:=hA.depth
   show A.depth+1+d<900
   rw [Nat.add_assoc,Nat.add_comm 1 d];exact this
  ·have:=hA.units
   have hu:(A.under (.builtin "type.__call__" ⟨[.ref C],[]⟩)).units=A.units+1:=rfl
   rw [hu,Nat.add_assoc]
   exact Nat.lt_of_le_of_lt (Nat.add_le_add_left (by rw [Nat.mul_add,Nat.add_comm];exact Nat.add_le_add_left (by decide) _) _) this
  ·exact Nat.le_of_succ_le hA.le
 refine wpAny_mono (h _ _ (st.noO hn1) (st.noO hn0) (st.noF hn1) (st.noF hn0) hne _ _ E [.ref (hh.objs.size+1)] hA' (st₁.under hfr) (by simp only [VRels,VRel];exact ⟨_,_,rfl,rfl,rfl⟩) fun e cls σ' s' hx t' hs he=>?_) ?_ fun z1 z2 x=>x
 ·exact hX e cls σ' s' hx (t₁.trans t') (hs.under hfr.symm) (he.sooner t₁.there)
 ·rintro r s' ⟨v,σ',⟨rfl,hp⟩,t',hs,rv⟩
  simp only [VRel] at rv
  exact ⟨rv,.ref _,σ',hp,t₁.trans t',hs.under hfr.symm,by simp only [VRel]⟩
end Mine
end
section
namespace Mine
open PySem
variable {c:Cx} {d:Nat} {sc:Scope} {m:zaf} {σ:Led} {P:V->Led->Prop} {X:XP} {K:Fl->zaf->Led->Prop}
def WPs (c:Cx) (d:Nat) (sc:Scope) (xs:List Str) (ks:List (Option Expr)) (es:List Expr) (m:zaf) (σ:Led) (P:List V->Led->Prop) (X:XP):Prop:=
 ∀ (env:Env) (A:Around) (s:Shared) (E:Value->Shared->Prop) (pos:Pos),RE c d sc m σ X env A s E->
  wpAny c.M A (evalPairs (pairTrees ks es env pos)) (fun ps s'=>∃ vs σ',P vs σ'/\Step c.F (zab σ) (zab σ') s s'/\St c A σ' s'.heap/\∃ cs,xs.length=cs.length/\PySem.Carries (strKind c.k.prog c.k.w) ps (xs.zip cs)/\VRels s'.heap (zah c σ') vs cs) E s
theorem z2f {P:List V->Led->Prop} (h:P [] σ):WPs c d sc [] [] [] m σ P X:=fun env A s E pos r=>
 pairTrees_nil_walk ⟨[],σ,h,.refl,r.st,[],rfl,trivial,by simp only [VRels]⟩
theorem zy2 {x:Str} {xs:List Str} {ks:List (Option Expr)} {es:List Expr} {k e:Expr} {P:List V->Led->Prop} (hk:∀ P':V->Led->Prop,P' (.str x) σ->WE c d sc k m σ P' X)
  (h:WE c d sc e m σ (fun v σ₁=>WPs c d sc xs ks es m σ₁ (fun vs σ₂=>P (v::vs) σ₂) X) X):WPs c d sc (x::xs) (some k::ks) (e::es) m σ P X:=by
 intro env A s E pos r
 refine pairTrees_cons_walk (wpAny_mono (hk (fun v σ₁=>v=.str x/\σ₁=σ) ⟨rfl,rfl⟩ env A s E r) ?_ fun z1 z2 x=>x)
 rintro ck s₁ ⟨v,σ₁,⟨rfl,rfl⟩,t₁,hs₁,rk⟩
 refine wpAny_mono (h env A s₁ E (r.step t₁ hs₁)) ?_ fun z1 z2 x=>x
 rintro cv s₂ ⟨w,σ₂,h₂,t₂,hs₂,rv⟩
 refine wpAny_mono (h₂ env A s₂ E pos ((r.step t₁ hs₁).step t₂ hs₂)) ?_ fun z1 z2 x=>x
 rintro ps s₃ ⟨ws,σ₃,h₃,t₃,hs₃,cs,hl,hc,rs⟩
 exact ⟨w::ws,σ₃,h₃,(t₁.trans t₂).trans t₃,hs₃,cv::cs,by simp [hl],⟨DK.str.key _ _ _ _ rk,rfl,hc⟩,by simp only [VRels];exact ⟨cv,cs,rfl,t₃.v rv,rs⟩⟩
theorem zy9 (hk:c.k.OK) {xs:List Str} {ks:List (Option Expr)} {es:List Expr} {pos:Pos} (hall:ks.all (·.isSome)=true) (hl:ks.length=es.length) (h0:ks≠[]) (hlen:ks.length<=15) (hnd:xs.Nodup)
  (h:∀ a,a∉zab σ->a∉c.F->WPs c d sc xs ks es m ((a,.dictS [])::σ) (fun ws σ₁=>σ₁.lookup a=some (.dictS [])/\P (.ref a) (upd a (.dictS (xs.zip ws)) σ₁)) X):WE c d sc (.Dict ks es pos) m σ P X:=by
 intro env A s E r
 refine wpAny_Dict_walk (knd:=strKind c.k.prog c.k.w) hall hl h0 hlen ?_
 have hn:∀ b∈(O.dictS []).addrs s.heap.objs.size,s.heap.get? b=none:=fun b hb=>by
  rw [DK.str (c:=c).addrs,List.mem_singleton] at hb;subst hb;exact get?_size _
 obtain ⟨o,es',ep,ho,_⟩:=hk.g
 have h3:mainGlobals<s.heap.objs.size:=Heap.lt_size (r.st.keep _ _ ho)
 have st1:St c A ((s.heap.objs.size,.dictS [])::σ) (s.heap.push { cls:=.type "dict",data:=.dict #[] }):=by
  refine r.st.alloc (.push _) hn (by rw [DK.str (c:=c).addrs];simp) ?_
  rw [DK.str.rel]
  refine ⟨[],?_,Heap.DictOf.new _,rfl,rfl⟩
  rw [beq_eq_false_iff_ne]
  intro q
  rw [q] at h3
  exact absurd h3 (by decide)
 have t1:Step c.F (zab σ) (zab ((s.heap.objs.size,O.dictS [])::σ)) s { s with heap:=s.heap.push { cls:=.type "dict",data:=.dict #[] } }:=
  ⟨(Ext.push _).kept,fun b o e=>⟨o,Ext.push _ b o e⟩,fun b z1 o e=>Ext.push _ b o e,.alloc hn,rfl,rfl⟩
 refine wpAny_mono (h _ r.st.new r.st.newF env A _ E pos (r.step t1 st1)) ?_ fun z1 z2 x=>x
 rintro ps s₁ ⟨ws,σ₁,⟨hlk,hP⟩,t₂,hs₂,cs,hlc,hc,rs⟩
 have hr:=hs₂.objs _ _ (zad hlk)
 rw [DK.str.rel] at hr
 obtain ⟨cs0,hsys,p,e,_⟩:=hr
 have e0:cs0=[]:=by simpa using e
 subst e0
 have hk1:(xs.zip cs).map (·.1)=xs:=List.map_fst_zip (by rw [hlc];exact Nat.le_refl _)
 have hwl:ws.length=cs.length:=rs.length.symm
 refine ⟨xs.zip cs,hc,p,fun h' p' hsb=>?_⟩
 have k':=SameBut.but hsb
 rw [merged_nil_of_nodup _ (by rw [hk1];exact hnd)] at p'
 refine ⟨.ref _,_,hP,(t1.trans t₂).trans (.upd hlk rfl r.st.newF (p'.elim fun z1 q=>q.elim fun z1 q=>q.elim fun z1 q=>⟨_,q.1⟩) k'),hs₂.updO hlk (O.self _ _) rfl k' ?_,by simp only [VRel]⟩
 rw [DK.str.rel]
 refine ⟨_,hsys,p',?_,?_⟩
 ·rw [hk1,List.map_fst_zip (by rw [hlc,hwl];exact Nat.le_refl _)]
 ·rw [List.map_snd_zip (by rw [hlc,hwl];exact Nat.le_refl _),List.map_snd_zip (by rw [hlc];exact Nat.le_refl _)]
  exact rs.carry (But.carriesHid (List.mem_append_right _ (za3 hlk)) k')
end Mine
end
section
namespace Mine
open PySem
variable {c:Cx} {d:Nat} {sc:Scope} {m:zaf} {σ:Led} {P:V->Led->Prop} {X:XP}
end Mine
end
section
namespace Mine
open PySem PySem.SeqAt
variable {c:Cx} {d:Nat} {σ:Led} {P:V->Led->Prop} {X:XP}
theorem zsr {lv:V} {vs:List V} (hl:IsLst σ lv vs):zzp c σ lv "count" "list" "list.count":=by
 refine ⟨PySem.F.plainAttrs_list,PySem.F.slot_list_count,PySem.F.type_list_count,fun A s cv st r=>?_⟩
 obtain ⟨b,cs,rfl,p,_⟩:=hl.plain st r
 obtain ⟨n,e⟩:=id p
 exact ⟨p.isList.typeIs,fun b' q=>by cases q;exact ⟨_,e,rfl⟩⟩
theorem zsq {lv:V} {vs:List V} (hl:IsLst σ lv vs):zzp c σ lv "index" "list" "list.index":=by
 refine ⟨PySem.F.plainAttrs_list,PySem.F.slot_list_index,PySem.F.type_list_index,fun A s cv st r=>?_⟩
 obtain ⟨b,cs,rfl,p,_⟩:=hl.plain st r
 obtain ⟨n,e⟩:=id p
 exact ⟨p.isList.typeIs,fun b' q=>by cases q;exact ⟨_,e,rfl⟩⟩
theorem zvp {A:Around} {s:Shared} {bs:List Bool} {y:Value} (hy:y∈(bs.map Value.bool).toArray):EqAt A s y (.bool true) (y == .bool true):=by
 obtain ⟨b,_,rfl⟩:=List.mem_map.mp (List.mem_toArray.mp hy)
 have e:(Value.bool b == .bool true)=(b == true):=by cases b <;> rfl
 rw [e];exact EqAt.bool_bool b true
theorem zs0 {bs:List Bool} {lv:V} (hl:IsLst σ lv (bs.map .bool)) (h:P (.int (bs.count true:Nat)) σ):CallS c d (.builtin "list.count") [lv,.bool true] σ P X:=by
 intro A s E cs hA st rs _
 obtain ⟨x,y,rfl,r,ry⟩:=rs.un2
 simp only [VRel] at ry;subst ry
 have hq:=hl.plain st r
 (try clear rs)
 obtain ⟨a,cs,rfl,⟨n,ho⟩,hsz,rs⟩:=hq
 have hcs:=rs.bools
 subst hcs
 refine call_meets PySem.F.slot_list_count ⟨_,ho,rfl⟩ PySem.F.entry_list_count (PySem.F.args_list_count_2 _ _) (list_countAt a _ n _ _ (.bool true) (· == .bool true)) ⟨ho,fun y hy=>zvp hy,?_⟩
 have e:(bs.map Value.bool).toArray.toList.countP (· == .bool true)=bs.count true:=by
  show (bs.map Value.bool).countP _=_
  rw [List.countP_map]
  refine List.countP_congr fun b z1=>?_
  cases b <;> simp
 rw [e]
 exact ⟨_,σ,h,.toks,st,by simp only [VRel];exact ⟨_,rfl⟩⟩
theorem zsz {bs:List Bool} {j:Nat} {lv:V} (hl:IsLst σ lv (bs.map .bool)) (hj:bs[j]?=some true) (hno:∀ m,m<j->bs[m]?=some false) (hz:j<1000) (h:P (.int j) σ):CallS c d (.builtin "list.index") [lv,.bool true] σ P X:=by
 intro A s E cs hA st rs _
 obtain ⟨x,y,rfl,r,ry⟩:=rs.un2
 simp only [VRel] at ry;subst ry
 have hq:=hl.plain st r
 (try clear rs)
 obtain ⟨a,cs,rfl,⟨n,ho⟩,hsz,rs⟩:=hq
 have hcs:=rs.bools
 subst hcs
 obtain ⟨hlt,hj⟩:=List.getElem?_eq_some_iff.mp hj
 refine call_meets PySem.F.slot_list_index ⟨_,ho,rfl⟩ PySem.F.entry_list_index (PySem.F.args_list_index_2 _ _) (list_indexAt a _ n _ _ (.bool true) (· == .bool true) j (by rw [List.size_toArray,List.length_map];exact hlt) (by lia) ?_ ?_) ⟨ho,fun y hy=>zvp hy,?_⟩
 ·rw [List.getElem_toArray,List.getElem_map,hj];rfl
 ·intro m hm q
  have:=hno m q
  obtain ⟨hm',e⟩:=List.getElem?_eq_some_iff.mp this
  rw [List.getElem_toArray,List.getElem_map,e];rfl
 ·exact ⟨_,σ,h,.toks,st,by simp only [VRel];exact ⟨_,rfl⟩⟩
end Mine
end
section
namespace Mine
namespace Deal
noncomputable abbrev Row:=Nat × Nat × Int
variable {W:Type} [DecidableEq W]
end Deal
end Mine
end
section
namespace Mine
open PySem PyProof.Rows
variable {c:Cx} {d:Nat} {sc:Scope} {m:zaf} {σ:Led} {P:V->Led->Prop} {X:XP} {K:Fl->zaf->Led->Prop}
section
variable {prog:Program} {w:World} {A:Around} {E:Value->Shared->Prop} {s:Shared}
end
end Mine
end
section
set_option genSizeOf false
set_option genInjectivity false
namespace Mine
open PySem
inductive Bf where
 | len | isinstance | int | bool | str | tuple | list | dict | set | range | max | min | sum | all | sorted
noncomputable def Bf.name:Bf->Str
 | .len=>"len" | .isinstance=>"isinstance" | .int=>"int" | .bool=>"bool" | .str=>"str" | .tuple=>"tuple" | .list=>"list" | .dict=>"dict" | .set=>"set"
 | .range=>"range" | .max=>"max" | .min=>"min" | .sum=>"sum" | .all=>"all" | .sorted=>"sorted"
noncomputable def Bf.val:Bf->Value
 | .len=>.builtin "len" | .isinstance=>.builtin "isinstance" | .int=>.type "int" | .bool=>.type "bool" | .str=>.type "str" | .tuple=>.type "tuple" | .list=>.type "list" | .dict=>.type "dict" | .set=>.type "set"
 | .range=>.type "range" | .max=>.builtin "max" | .min=>.builtin "min" | .sum=>.builtin "sum" | .all=>.builtin "all" | .sorted=>.builtin "sorted"
inductive T where
 | nil | cons (e r:T)
 | int (i:Int) | str (x:Str) | bool (b:Bool) | none
 | var (i:Nat)
 | bin (op:Operator) (l r:T) | un (op:UnaryOp) (e:T)
 | cmp (op:CmpOp) (l r:T) | cmp2 (l:T) (o₁:CmpOp) (a:T) (o₂:CmpOp) (b:T)
 | bo (op:BoolOp) (es:T) | ife (t a b:T)
 | tup (es:T) | lst (loc:Bool) (es:T)
 | call (f:Str) (es:T) | blt (f:Bf) (es:T) | isi (e:T) (f:Bf) | meth (o:T) (x:Str) (es:T) | methI (o:T) (x:Str) (es:T)
 | item (v i:T) | slice (v lo hi:T)
 | comp (loc hc:Bool) (elt:T) (ns:List Nat) (it cond:T)
 | attr (o:T) (x:Str) | dict (ks vs:T) | cut (q:T)
 | ret (e:T) | ret0 | pass | brk | cont | expr (e:T)
 | asgn (t e:T) | asgnC (i:Nat) (loc hc:Bool) (elt:T) (ns:List Nat) (it cond:T)
 | ite (t a b:T) | for_ (t it body:T) | while_ (t body:T)
 | raise (x:Str) (es:T) | try_ (body hs:T) | handler (x:Str) (v:Option Nat) (body:T)
 | isx (a:T) (tp:Bool) (xs:List Str)
 | dictL (xs:List Str) (es:T)
noncomputable abbrev Rho:=List (Nat × V)
structure Glob where
 gInts:List (Str × Int)
 gStrs:List (Str × Str)
 gDefs:List Str
 hd:Bool
structure GlobOk (k:Base) (G:Glob):Prop where
 ok:k.OK
 hInts:∀ x i,G.gInts.lookup x=some i->Const k x (.int i)
 hStrs:∀ x y,G.gStrs.lookup x=some y->Const k x (.str y)
 hDefs:∀ x,G.gDefs.contains x=true->Def k x
 hBlts:∀ f:Bf,Blt k f.name f.val
 hd:G.hd=true->k.hd=true
noncomputable def gi (sc:Scope) (x:Str):Bool:=sc.names.lookup x == some .globalImplicit
theorem zi5 {sc:Scope} {x:Str} (h:gi sc x=true):sc.names.lookup x=some .globalImplicit:=by simpa [gi] using h
noncomputable def zaq (e:Expr):Bool:=e.ctorIdx != 22
noncomputable def zuo (e:Expr):Bool:=e.ctorIdx != 7
noncomputable def zmg (e:Expr):Bool:=e.ctorIdx != 8 && e.ctorIdx != 9 && e.ctorIdx != 10
noncomputable def zfs (e:Expr):Bool:=e.ctorIdx != 26
noncomputable def zqe (x y:Expr):Bool:=zmg y || x.ctorIdx == 21
noncomputable def z1g (e:Expr) (f:PySem.Const->Bool):Bool:=if h:e.ctorIdx=19 then Expr.Constant.elim (motive_1:=fun z1=>Bool) e h (fun k z1 z2=>f k) else false
set_option tactic.hygienic true
theorem zdf {e:Expr} {f:PySem.Const->Bool} (h:z1g e f=true):∃ k n p,e=.Constant k n p/\f k=true:=by
 unfold z1g at h
 split at h
 ·rename_i q;revert h;exact Expr.Constant.elim (motive_1:=fun e=>∀ h:e.ctorIdx=19,Expr.Constant.elim (motive_1:=fun z1=>Bool) e h (fun k z1 z2=>f k)=true->∃ k n p,e=.Constant k n p/\f k=true) e q (fun k n p z1 hk=>⟨k,n,p,rfl,hk⟩) q
 ·cases h
noncomputable def zjn (e:Expr) (f:Str->Bool):Bool:=if h:e.ctorIdx=23 then Expr.Name.elim (motive_1:=fun z1=>Bool) e h (fun x z1=>f x) else false
theorem zbg {e:Expr} {f:Str->Bool} (h:zjn e f=true):∃ x p,e=.Name x p/\f x=true:=by
 unfold zjn at h
 split at h
 ·rename_i q;revert h;exact Expr.Name.elim (motive_1:=fun e=>∀ h:e.ctorIdx=23,Expr.Name.elim (motive_1:=fun z1=>Bool) e h (fun x z1=>f x)=true->∃ x p,e=.Name x p/\f x=true) e q (fun x p z1 hk=>⟨x,p,rfl,hk⟩) q
 ·cases h
noncomputable def z1f (e:Expr) (f:Str->Pos->Bool):Bool:=if h:e.ctorIdx=23 then Expr.Name.elim (motive_1:=fun z1=>Bool) e h (fun x p=>f x p) else false
theorem zub {e:Expr} {f:Str->Pos->Bool} (h:z1f e f=true):∃ x p,e=.Name x p/\f x p=true:=by
 unfold z1f at h
 split at h
 ·rename_i q;revert h;exact Expr.Name.elim (motive_1:=fun e=>∀ h:e.ctorIdx=23,Expr.Name.elim (motive_1:=fun z1=>Bool) e h (fun x p=>f x p)=true->∃ x p,e=.Name x p/\f x p=true) e q (fun x p z1 hk=>⟨x,p,rfl,hk⟩) q
 ·cases h
noncomputable def zxw (e:Expr) (f:Expr->Operator->Expr->Bool):Bool:=if h:e.ctorIdx=2 then Expr.BinOp.elim (motive_1:=fun z1=>Bool) e h (fun l o r z1=>f l o r) else false
theorem zuj {e:Expr} {f:Expr->Operator->Expr->Bool} (h:zxw e f=true):∃ l o r p,e=.BinOp l o r p/\f l o r=true:=by
 unfold zxw at h
 split at h
 ·rename_i q;revert h;exact Expr.BinOp.elim (motive_1:=fun e=>∀ h:e.ctorIdx=2,Expr.BinOp.elim (motive_1:=fun z1=>Bool) e h (fun l o r z1=>f l o r)=true->∃ l o r p,e=.BinOp l o r p/\f l o r=true) e q (fun l o r p z1 hk=>⟨l,o,r,p,rfl,hk⟩) q
 ·cases h
noncomputable def z30 (e:Expr) (f:UnaryOp->Expr->Bool):Bool:=if h:e.ctorIdx=3 then Expr.UnaryOp.elim (motive_1:=fun z1=>Bool) e h (fun o l z1=>f o l) else false
theorem zp7 {e:Expr} {f:UnaryOp->Expr->Bool} (h:z30 e f=true):∃ o l p,e=.UnaryOp o l p/\f o l=true:=by
 unfold z30 at h
 split at h
 ·rename_i q;revert h;exact Expr.UnaryOp.elim (motive_1:=fun e=>∀ h:e.ctorIdx=3,Expr.UnaryOp.elim (motive_1:=fun z1=>Bool) e h (fun o l z1=>f o l)=true->∃ o l p,e=.UnaryOp o l p/\f o l=true) e q (fun o l p z1 hk=>⟨o,l,p,rfl,hk⟩) q
 ·cases h
noncomputable def zr4 (e:Expr) (f:Expr->List CmpOp->List Expr->Bool):Bool:=if h:e.ctorIdx=15 then Expr.Compare.elim (motive_1:=fun z1=>Bool) e h (fun l os rs z1=>f l os rs) else false
theorem zmd {e:Expr} {f:Expr->List CmpOp->List Expr->Bool} (h:zr4 e f=true):∃ l os rs p,e=.Compare l os rs p/\f l os rs=true:=by
 unfold zr4 at h
 split at h
 ·rename_i q;revert h;exact Expr.Compare.elim (motive_1:=fun e=>∀ h:e.ctorIdx=15,Expr.Compare.elim (motive_1:=fun z1=>Bool) e h (fun l os rs z1=>f l os rs)=true->∃ l os rs p,e=.Compare l os rs p/\f l os rs=true) e q (fun l os rs p z1 hk=>⟨l,os,rs,p,rfl,hk⟩) q
 ·cases h
noncomputable def z31 (e:Expr) (f:BoolOp->List Expr->Bool):Bool:=if h:e.ctorIdx=0 then Expr.BoolOp.elim (motive_1:=fun z1=>Bool) e h (fun o es z1=>f o es) else false
theorem zqb {e:Expr} {f:BoolOp->List Expr->Bool} (h:z31 e f=true):∃ o es p,e=.BoolOp o es p/\f o es=true:=by
 unfold z31 at h
 split at h
 ·rename_i q;revert h;exact Expr.BoolOp.elim (motive_1:=fun e=>∀ h:e.ctorIdx=0,Expr.BoolOp.elim (motive_1:=fun z1=>Bool) e h (fun o es z1=>f o es)=true->∃ o es p,e=.BoolOp o es p/\f o es=true) e q (fun o es p z1 hk=>⟨o,es,p,rfl,hk⟩) q
 ·cases h
noncomputable def z7i (e:Expr) (f:Expr->Expr->Expr->Bool):Bool:=if h:e.ctorIdx=5 then Expr.IfExp.elim (motive_1:=fun z1=>Bool) e h (fun t a b z1=>f t a b) else false
theorem zxt {e:Expr} {f:Expr->Expr->Expr->Bool} (h:z7i e f=true):∃ t a b p,e=.IfExp t a b p/\f t a b=true:=by
 unfold z7i at h
 split at h
 ·rename_i q;revert h;exact Expr.IfExp.elim (motive_1:=fun e=>∀ h:e.ctorIdx=5,Expr.IfExp.elim (motive_1:=fun z1=>Bool) e h (fun t a b z1=>f t a b)=true->∃ t a b p,e=.IfExp t a b p/\f t a b=true) e q (fun t a b p z1 hk=>⟨t,a,b,p,rfl,hk⟩) q
 ·cases h
noncomputable def zi0 (e:Expr) (f:List Expr->Bool):Bool:=if h:e.ctorIdx=25 then Expr.Tuple.elim (motive_1:=fun z1=>Bool) e h (fun es z1 z2=>f es) else false
theorem zdc {e:Expr} {f:List Expr->Bool} (h:zi0 e f=true):∃ es k p,e=.Tuple es k p/\f es=true:=by
 unfold zi0 at h
 split at h
 ·rename_i q;revert h;exact Expr.Tuple.elim (motive_1:=fun e=>∀ h:e.ctorIdx=25,Expr.Tuple.elim (motive_1:=fun z1=>Bool) e h (fun es z1 z2=>f es)=true->∃ es k p,e=.Tuple es k p/\f es=true) e q (fun es k p z1 hk=>⟨es,k,p,rfl,hk⟩) q
 ·cases h
noncomputable def z4e (e:Expr) (f:List Expr->Bool):Bool:=if h:e.ctorIdx=24 then Expr.List.elim (motive_1:=fun z1=>Bool) e h (fun es z1=>f es) else false
theorem zp8 {e:Expr} {f:List Expr->Bool} (h:z4e e f=true):∃ es p,e=.List es p/\f es=true:=by
 unfold z4e at h
 split at h
 ·rename_i q;revert h;exact Expr.List.elim (motive_1:=fun e=>∀ h:e.ctorIdx=24,Expr.List.elim (motive_1:=fun z1=>Bool) e h (fun es z1=>f es)=true->∃ es p,e=.List es p/\f es=true) e q (fun es p z1 hk=>⟨es,p,rfl,hk⟩) q
 ·cases h
noncomputable def zjp (e:Expr) (f:List (Option Expr)->List Expr->Bool):Bool:=if h:e.ctorIdx=6 then Expr.Dict.elim (motive_1:=fun z1=>Bool) e h (fun ks vs z1=>f ks vs) else false
theorem zjo {e:Expr} {f:List (Option Expr)->List Expr->Bool} (h:zjp e f=true):∃ ks vs p,e=.Dict ks vs p/\f ks vs=true:=by
 unfold zjp at h
 split at h
 ·rename_i q;revert h;exact Expr.Dict.elim (motive_1:=fun e=>∀ h:e.ctorIdx=6,Expr.Dict.elim (motive_1:=fun z1=>Bool) e h (fun ks vs z1=>f ks vs)=true->∃ ks vs p,e=.Dict ks vs p/\f ks vs=true) e q (fun ks vs p z1 hk=>⟨ks,vs,p,rfl,hk⟩) q
 ·cases h
noncomputable def zqa (e:Expr) (f:Expr->List Expr->List Keyword->Pos->Bool):Bool:=if h:e.ctorIdx=16 then Expr.Call.elim (motive_1:=fun z1=>Bool) e h (fun g es ks p=>f g es ks p) else false
theorem zbr {e:Expr} {f:Expr->List Expr->List Keyword->Pos->Bool} (h:zqa e f=true):∃ g es ks p,e=.Call g es ks p/\f g es ks p=true:=by
 unfold zqa at h
 split at h
 ·rename_i q;revert h;exact Expr.Call.elim (motive_1:=fun e=>∀ h:e.ctorIdx=16,Expr.Call.elim (motive_1:=fun z1=>Bool) e h (fun g es ks p=>f g es ks p)=true->∃ g es ks p,e=.Call g es ks p/\f g es ks p=true) e q (fun g es ks p z1 hk=>⟨g,es,ks,p,rfl,hk⟩) q
 ·cases h
noncomputable def zjq (e:Expr) (f:Expr->Str->Pos->Bool):Bool:=if h:e.ctorIdx=20 then Expr.Attribute.elim (motive_1:=fun z1=>Bool) e h (fun o y p=>f o y p) else false
theorem zfr {e:Expr} {f:Expr->Str->Pos->Bool} (h:zjq e f=true):∃ o y p,e=.Attribute o y p/\f o y p=true:=by
 unfold zjq at h
 split at h
 ·rename_i q;revert h;exact Expr.Attribute.elim (motive_1:=fun e=>∀ h:e.ctorIdx=20,Expr.Attribute.elim (motive_1:=fun z1=>Bool) e h (fun o y p=>f o y p)=true->∃ o y p,e=.Attribute o y p/\f o y p=true) e q (fun o y p z1 hk=>⟨o,y,p,rfl,hk⟩) q
 ·cases h
noncomputable def zob (e:Expr) (f:Expr->Expr->Bool):Bool:=if h:e.ctorIdx=21 then Expr.Subscript.elim (motive_1:=fun z1=>Bool) e h (fun v i z1=>f v i) else false
theorem zdd {e:Expr} {f:Expr->Expr->Bool} (h:zob e f=true):∃ v i p,e=.Subscript v i p/\f v i=true:=by
 unfold zob at h
 split at h
 ·rename_i q;revert h;exact Expr.Subscript.elim (motive_1:=fun e=>∀ h:e.ctorIdx=21,Expr.Subscript.elim (motive_1:=fun z1=>Bool) e h (fun v i z1=>f v i)=true->∃ v i p,e=.Subscript v i p/\f v i=true) e q (fun v i p z1 hk=>⟨v,i,p,rfl,hk⟩) q
 ·cases h
noncomputable def z7h (e:Expr) (f:Option Expr->Option Expr->Option Expr->Bool):Bool:=if h:e.ctorIdx=26 then Expr.Slice.elim (motive_1:=fun z1=>Bool) e h (fun lo hi st z1=>f lo hi st) else false
theorem zxr {e:Expr} {f:Option Expr->Option Expr->Option Expr->Bool} (h:z7h e f=true):∃ lo hi st p,e=.Slice lo hi st p/\f lo hi st=true:=by
 unfold z7h at h
 split at h
 ·rename_i q;revert h;exact Expr.Slice.elim (motive_1:=fun e=>∀ h:e.ctorIdx=26,Expr.Slice.elim (motive_1:=fun z1=>Bool) e h (fun lo hi st z1=>f lo hi st)=true->∃ lo hi st p,e=.Slice lo hi st p/\f lo hi st=true) e q (fun lo hi st p z1 hk=>⟨lo,hi,st,p,rfl,hk⟩) q
 ·cases h
noncomputable def zmc (e:Expr) (f:Expr->List Comprehension->Scope->Pos->Bool):Bool:=if h:e.ctorIdx=8 then Expr.ListComp.elim (motive_1:=fun z1=>Bool) e h (fun elt gs scope p=>f elt gs scope p) else false
theorem zr3 {e:Expr} {f:Expr->List Comprehension->Scope->Pos->Bool} (h:zmc e f=true):∃ elt gs scope p,e=.ListComp elt gs scope p/\f elt gs scope p=true:=by
 unfold zmc at h
 split at h
 ·rename_i q;revert h;exact Expr.ListComp.elim (motive_1:=fun e=>∀ h:e.ctorIdx=8,Expr.ListComp.elim (motive_1:=fun z1=>Bool) e h (fun elt gs scope p=>f elt gs scope p)=true->∃ elt gs scope p,e=.ListComp elt gs scope p/\f elt gs scope p=true) e q (fun elt gs scope p z1 hk=>⟨elt,gs,scope,p,rfl,hk⟩) q
 ·cases h
noncomputable def zrz (e:Stmt) (f:Option Expr->Bool):Bool:=if h:e.ctorIdx=3 then Stmt.Return.elim (motive_2:=fun z1=>Bool) e h (fun o z1=>f o) else false
theorem zmb {e:Stmt} {f:Option Expr->Bool} (h:zrz e f=true):∃ o p,e=.Return o p/\f o=true:=by
 unfold zrz at h
 split at h
 ·rename_i q;revert h;exact Stmt.Return.elim (motive_2:=fun e=>∀ h:e.ctorIdx=3,Stmt.Return.elim (motive_2:=fun z1=>Bool) e h (fun o z1=>f o)=true->∃ o p,e=.Return o p/\f o=true) e q (fun o p z1 hk=>⟨o,p,rfl,hk⟩) q
 ·cases h
noncomputable def zme (e:Stmt) (f:List Expr->Expr->Bool):Bool:=if h:e.ctorIdx=5 then Stmt.Assign.elim (motive_2:=fun z1=>Bool) e h (fun ts v z1=>f ts v) else false
theorem zjr {e:Stmt} {f:List Expr->Expr->Bool} (h:zme e f=true):∃ ts v p,e=.Assign ts v p/\f ts v=true:=by
 unfold zme at h
 split at h
 ·rename_i q;revert h;exact Stmt.Assign.elim (motive_2:=fun e=>∀ h:e.ctorIdx=5,Stmt.Assign.elim (motive_2:=fun z1=>Bool) e h (fun ts v z1=>f ts v)=true->∃ ts v p,e=.Assign ts v p/\f ts v=true) e q (fun ts v p z1 hk=>⟨ts,v,p,rfl,hk⟩) q
 ·cases h
noncomputable def zxv (e:Stmt) (f:Expr->Expr->List Stmt->List Stmt->Bool):Bool:=if h:e.ctorIdx=9 then Stmt.For.elim (motive_2:=fun z1=>Bool) e h (fun t it b o z1=>f t it b o) else false
theorem zue {e:Stmt} {f:Expr->Expr->List Stmt->List Stmt->Bool} (h:zxv e f=true):∃ t it b o p,e=.For t it b o p/\f t it b o=true:=by
 unfold zxv at h
 split at h
 ·rename_i q;revert h;exact Stmt.For.elim (motive_2:=fun e=>∀ h:e.ctorIdx=9,Stmt.For.elim (motive_2:=fun z1=>Bool) e h (fun t it b o z1=>f t it b o)=true->∃ t it b o p,e=.For t it b o p/\f t it b o=true) e q (fun t it b o p z1 hk=>⟨t,it,b,o,p,rfl,hk⟩) q
 ·cases h
noncomputable def zxs (e:Stmt) (f:Expr->List Stmt->List Stmt->Bool):Bool:=if h:e.ctorIdx=12 then Stmt.If.elim (motive_2:=fun z1=>Bool) e h (fun t a b z1=>f t a b) else false
theorem zuc {e:Stmt} {f:Expr->List Stmt->List Stmt->Bool} (h:zxs e f=true):∃ t a b p,e=.If t a b p/\f t a b=true:=by
 unfold zxs at h
 split at h
 ·rename_i q;revert h;exact Stmt.If.elim (motive_2:=fun e=>∀ h:e.ctorIdx=12,Stmt.If.elim (motive_2:=fun z1=>Bool) e h (fun t a b z1=>f t a b)=true->∃ t a b p,e=.If t a b p/\f t a b=true) e q (fun t a b p z1 hk=>⟨t,a,b,p,rfl,hk⟩) q
 ·cases h
noncomputable def zp9 (e:Stmt) (f:Expr->Bool):Bool:=if h:e.ctorIdx=24 then Stmt.Expr.elim (motive_2:=fun z1=>Bool) e h (fun v z1=>f v) else false
theorem zr1 {e:Stmt} {f:Expr->Bool} (h:zp9 e f=true):∃ v p,e=.Expr v p/\f v=true:=by
 unfold zp9 at h
 split at h
 ·rename_i q;revert h;exact Stmt.Expr.elim (motive_2:=fun e=>∀ h:e.ctorIdx=24,Stmt.Expr.elim (motive_2:=fun z1=>Bool) e h (fun v z1=>f v)=true->∃ v p,e=.Expr v p/\f v=true) e q (fun v p z1 hk=>⟨v,p,rfl,hk⟩) q
 ·cases h
noncomputable def onRaise (e:Stmt) (f:Option Expr->Option Expr->Bool):Bool:=if h:e.ctorIdx=16 then Stmt.Raise.elim (motive_2:=fun z1=>Bool) e h (fun x c z1=>f x c) else false
theorem zoc {e:Stmt} {f:Option Expr->Option Expr->Bool} (h:onRaise e f=true):∃ x c p,e=.Raise x c p/\f x c=true:=by
 unfold onRaise at h
 split at h
 ·rename_i q;revert h;exact Stmt.Raise.elim (motive_2:=fun e=>∀ h:e.ctorIdx=16,Stmt.Raise.elim (motive_2:=fun z1=>Bool) e h (fun x c z1=>f x c)=true->∃ x c p,e=.Raise x c p/\f x c=true) e q (fun x c p z1 hk=>⟨x,c,p,rfl,hk⟩) q
 ·cases h
noncomputable def zxq (e:Stmt) (f:List Stmt->List ExceptHandler->List Stmt->List Stmt->Bool):Bool:=if h:e.ctorIdx=17 then Stmt.Try.elim (motive_2:=fun z1=>Bool) e h (fun b hs o z z1=>f b hs o z) else false
theorem zt9 {e:Stmt} {f:List Stmt->List ExceptHandler->List Stmt->List Stmt->Bool} (h:zxq e f=true):∃ b hs o z p,e=.Try b hs o z p/\f b hs o z=true:=by
 unfold zxq at h
 split at h
 ·rename_i q;revert h;exact Stmt.Try.elim (motive_2:=fun e=>∀ h:e.ctorIdx=17,Stmt.Try.elim (motive_2:=fun z1=>Bool) e h (fun b hs o z z1=>f b hs o z)=true->∃ b hs o z p,e=.Try b hs o z p/\f b hs o z=true) e q (fun b hs o z p z1 hk=>⟨b,hs,o,z,p,rfl,hk⟩) q
 ·cases h
noncomputable def zua (e:Stmt):Bool:=e.ctorIdx == 25
set_option tactic.hygienic false
theorem zr0 {e:Stmt} (h:zua e=true):∃ p,e=.Pass p:=by
 exact Stmt.Pass.elim (motive_2:=fun e=>∃ p,e=.Pass p) e (by simpa [zua] using h) (fun p=>⟨p,rfl⟩)
noncomputable def z1h (e:Stmt):Bool:=e.ctorIdx == 26
theorem zui {e:Stmt} (h:z1h e=true):∃ p,e=.Break p:=by
 exact Stmt.Break.elim (motive_2:=fun e=>∃ p,e=.Break p) e (by simpa [z1h] using h) (fun p=>⟨p,rfl⟩)
noncomputable def zuf (e:Stmt):Bool:=e.ctorIdx == 27
theorem zr2 {e:Stmt} (h:zuf e=true):∃ p,e=.Continue p:=by
 exact Stmt.Continue.elim (motive_2:=fun e=>∃ p,e=.Continue p) e (by simpa [zuf] using h) (fun p=>⟨p,rfl⟩)
noncomputable def on1 {α:Type} (l:List α) (f:α->Bool):Bool:=match l with
 | [a]=>f a
 | _=>false
theorem zhp {α:Type} {l:List α} {f:α->Bool} (h:on1 l f=true):∃ a,l=[a]/\f a=true:=by
 match l,h with
 | [a],h=>exact ⟨a,rfl,h⟩
noncomputable def on2 {α:Type} (l:List α) (f:α->α->Bool):Bool:=match l with
 | [a,b]=>f a b
 | _=>false
theorem zod {α:Type} {l:List α} {f:α->α->Bool} (h:on2 l f=true):∃ a b,l=[a,b]/\f a b=true:=by
 match l,h with
 | [a,b],h=>exact ⟨a,b,rfl,h⟩
noncomputable def on0 {α:Type} (l:List α):Bool:=l.isEmpty
theorem za1 {α:Type} {l:List α} (h:on0 l=true):l=[]:=List.isEmpty_iff.mp h
noncomputable def zcg {α:Type} (o:Option α) (f:α->Bool):Bool:=match o with
 | some a=>f a
 | none=>false
theorem zbl {α:Type} {o:Option α} {f:α->Bool} (h:zcg o f=true):∃ a,o=some a/\f a=true:=by
 match o,h with
 | some a,h=>exact ⟨a,rfl,h⟩
noncomputable def za8 {α:Type} (l:List α) (f:α->List α->Bool):Bool:=match l with
 | a::r=>f a r
 | []=>false
theorem zap {α:Type} {l:List α} {f:α->List α->Bool} (h:za8 l f=true):∃ a r,l=a::r/\f a r=true:=by
 match l,h with
 | a::r,h=>exact ⟨a,r,rfl,h⟩
inductive Nd where
 | e (x:Expr) | q (x:Expr) | t (x:Expr)
 | l (x:List Expr) | ql (x:List Expr) | tl (x:List Expr)
 | o (x:Option Expr)
 | s (x:Stmt) | b (x:List Stmt)
 | hl (x:List ExceptHandler) | hd (x:ExceptHandler)
noncomputable def z7v (h:ExceptHandler) (f:Option Expr->Option Str->List Stmt->Bool):Bool:=match h with
 | .ExceptHandler t n b _=>f t n b
theorem zxu {h:ExceptHandler} {f:Option Expr->Option Str->List Stmt->Bool} (k:z7v h f=true):∃ t n b p,h=.ExceptHandler t n b p/\f t n b=true:=by
 cases h with
 | ExceptHandler t n b p=>exact ⟨t,n,b,p,rfl,k⟩
noncomputable def ndE (n:Nd) (f:Expr->Bool):Bool:=match n with
 | .e x=>f x
 | .o (some x)=>f x
 | _=>false
noncomputable def zur (n:Nd) (f:Expr->Bool):Bool:=match n with
 | .e x | .q x=>f x
 | .o (some x)=>f x
 | _=>false
noncomputable def ndS (n:Nd) (f:Stmt->Bool):Bool:=match n with
 | .s x=>f x
 | _=>false
noncomputable def zhz (e:Expr) (k:PySem.Const):Bool:=z1g e fun k'=>k' == k
noncomputable def zed:List Str->List (Option Expr)->Bool
 | [],ks=>on0 ks
 | x::xs,ks=>za8 ks fun k r=>zcg k (fun e=>zhz e (.str x)) && zed xs r
noncomputable def ze0 (e:Expr) (f:Str->List Expr->Bool):Bool:=zqa e fun g es ks z1=>on0 ks && zjn g fun x=>f x es
noncomputable def zu8 (e:Expr) (x:Str) (f:Expr->List Expr->Bool):Bool:=zqa e fun g es ks p=>on0 ks && zjq g fun o y ap=>y == x && za7 o && ap.endLine == p.line && es.all zaq && decide (es.length<30) && f o es
noncomputable def nms (N:List Str):List Nat->Option (List Str)
 | []=>some []
 | i::r=>match N[i]?,nms N r with
  | some x,some xs=>some (x::xs)
  | _,_=>Option.none
noncomputable def nmB:List Str->List Expr->Bool
 | [],ts=>on0 ts
 | x::xs,ts=>za8 ts fun t r=>zjn t (fun y=>y == x) && nmB xs r
noncomputable def tgB (xs:List Str) (te:Expr):Bool:=match xs with
 | [x]=>zjn te fun y=>y == x
 | xs=>zi0 te fun ts=>nmB xs ts
noncomputable def zva (e:Expr) (sc:Scope) (ns:List Nat) (N:List Str) (f:Expr->Expr->List Expr->Scope->Bool):Bool:=
 zmc e fun elt gs scope z1=>on1 gs fun g=>g.is_async == 0 && zcg (nms N ns) fun xs=>tgB xs g.target && ze3 scope sc xs && zuo g.iter && f elt g.iter g.ifs (zb5 scope sc)
noncomputable def lc (hc:Bool) (ifs:List Expr) (f:Expr->Bool):Bool:=match hc with
 | false=>on0 ifs
 | true=>on1 ifs f
noncomputable def zvb (s:Stmt) (sc:Scope) (x:Str) (f:Expr->Bool):Bool:=zme s fun ts e=>on1 ts fun t=>z1f t fun y px=>y == x && zk3 sc x &&
 (zmc e fun z1 z2 scope pos=>!(sc.names.lookup x == some .local) || (px.line == pos.line && !(scope.names.any fun (n,k)=>n == x && (k == .local || k == .cell)))) && f e
noncomputable def z8w (N:List Str) (sc:Scope) (v:Option Nat) (nm:Option Str):Bool:=match v with
 | none=>nm.isNone
 | some i=>zcg nm fun y=>N[i]? == some y && sc.names.lookup y == some .local
noncomputable def zqf (sc:Scope):List Str->List Expr->Bool
 | [],es=>on0 es
 | x::xs,es=>za8 es fun e r=>zjn e (fun y=>y == x && gi sc x) && zqf sc xs r
noncomputable def z13 (sc:Scope) (tp:Bool) (xs:List Str) (z:Expr):Bool:=match tp with
 | true=>zi0 z fun es=>decide (es.length<=1000) && zqf sc xs es
 | false=>zqf sc xs [z]
section
variable (G:Glob) (N:List Str)
noncomputable def chk:T->Scope->Nd->Bool
 | .nil,sc,n=>(match n with
  | .l x | .ql x | .tl x=>on0 x
  | .b x=>on0 x
  | .hl x=>on0 x
  | .o x=>x.isNone
  | _=>false)
 | .cons a r,sc,n=>(match n with
  | .l x=>za8 x fun e es=>zaq e && es.all zaq && chk a sc (.e e) && chk r sc (.l es)
  | .ql x=>za8 x fun e es=>chk a sc (.q e) && chk r sc (.ql es)
  | .tl x=>za8 x fun e es=>zaq e && es.all zaq && chk a sc (.t e) && chk r sc (.tl es)
  | .b x=>za8 x fun s ss=>chk a sc (.s s) && chk r sc (.b ss)
  | .hl x=>za8 x fun h hs=>chk a sc (.hd h) && chk r sc (.hl hs)
  | _=>false)
 | .int i,sc,n=>ndE n fun e=>zhz e (.int i) || zjn e (fun x=>gi sc x && G.gInts.lookup x == some i)
 | .str y,sc,n=>ndE n fun e=>zhz e (.str y) || zjn e (fun x=>gi sc x && G.gStrs.lookup x == some y)
 | .bool b,sc,n=>ndE n fun e=>zhz e (.bool b)
 | .none,sc,n=>ndE n fun e=>zhz e .none
 | .var i,sc,n=>(match n with
  | .t e=>zjn e (fun x=>zk3 sc x && N[i]? == some x)
  | n=>zur n fun e=>zjn e (fun x=>zu7 sc x && N[i]? == some x))
 | .bin op a b,sc,n=>ndE n fun e=>zxw e (fun l o r=>o == op && chk a sc (.e l) && chk b sc (.e r))
 | .un op a,sc,n=>(match n with
  | .q e=>z30 e (fun o l=>o == op && op == .Not && chk a sc (.q l))
  | n=>ndE n fun e=>z30 e (fun o l=>o == op && chk a sc (.e l)))
 | .cmp op a b,sc,n=>zur n fun e=>zr4 e fun l os rs=>os == [op] && on1 rs fun r=>!behindInMarks op r && chk a sc (.e l) && chk b sc (.e r)
 | .cmp2 a o₁ b o₂ b',sc,n=>zur n fun e=>zr4 e fun l os rs=>os == [o₁,o₂] && on2 rs fun r r'=>!behindInMarks o₂ r' && chk a sc (.e l) && chk b sc (.e r) && chk b' sc (.e r')
 | .bo op es,sc,n=>(match n with
  | .q e=>z31 e (fun o xs=>o == op && chk es sc (.ql xs))
  | n=>ndE n fun e=>z31 e (fun o xs=>o == op && chk es sc (.l xs)))
 | .ife t a b,sc,n=>ndE n fun e=>z7i e (fun x y z=>chk t sc (.q x) && chk a sc (.e y) && chk b sc (.e z))
 | .tup es,sc,n=>(match n with
  | .t e=>zi0 e (fun xs=>G.hd && chk es sc (.tl xs))
  | n=>ndE n fun e=>zi0 e (fun xs=>decide (xs.length<=1000) && chk es sc (.l xs)))
 | .lst _ es,sc,n=>ndE n fun e=>z4e e (fun xs=>decide (xs.length<=1000) && chk es sc (.l xs))
 | .call f es,sc,n=>zur n fun e=>ze0 e (fun x xs=>x == f && gi sc f && G.gDefs.contains f && chk es sc (.l xs))
 | .blt f es,sc,n=>zur n fun e=>ze0 e (fun x xs=>x == f.name && gi sc f.name && G.hd && chk es sc (.l xs))
 | .isi a f,sc,n=>zur n fun e=>ze0 e (fun x xs=>x == Bf.isinstance.name && gi sc Bf.isinstance.name && on2 xs fun y z=>zaq y && zjn z (fun x=>x == f.name && gi sc f.name) && chk a sc (.e y))
 | .meth o x es,sc,n=>zur n fun e=>zu8 e x (fun p xs=>chk o sc (.e p) && chk es sc (.l xs))
 | .methI o x es,sc,n=>zur n fun e=>zu8 e x (fun p xs=>chk o sc (.e p) && chk es sc (.l xs))
 | .attr a x,sc,n=>(match n with
  | .t e=>zjq e (fun o y z1=>y == x && za7 o && chk a sc (.e o))
  | n=>zur n fun e=>zjq e (fun o y z1=>y == x && za7 o && chk a sc (.e o)))
 | .item a b,sc,n=>(match n with
  | .t e=>zob e (fun v i=>zfs i && chk a sc (.e v) && chk b sc (.e i))
  | n=>zur n fun e=>zob e (fun v i=>zfs i && chk a sc (.e v) && chk b sc (.e i)))
 | .slice a lo hi,sc,n=>ndE n fun e=>zob e (fun v s=>z7h s fun l h st=>st.isNone && chk a sc (.e v) && chk lo sc (.o l) && chk hi sc (.o h))
 | .comp _ hc elt t it cond,sc,n=>ndE n fun e=>zva e sc t N (fun e it' ifs sc'=>G.hd && chk it sc (.e it') && chk elt sc' (.e e) && lc hc ifs (fun q=>chk cond sc' (.q q)))
 | .cut q,sc,n=>(match n with
  | .q e=>chk q sc (.q e)
  | .e e=>chk q sc (.e e)
  | _=>false)
 | .ret e,sc,n=>ndS n fun s=>zrz s fun o=>zcg o fun x=>chk e sc (.e x)
 | .ret0,sc,n=>ndS n fun s=>zrz s fun o=>o.isNone
 | .pass,sc,n=>ndS n zua
 | .brk,sc,n=>ndS n z1h
 | .cont,sc,n=>ndS n zuf
 | .expr e,sc,n=>ndS n fun s=>zp9 s (fun x=>zmg x && chk e sc (.e x))
 | .asgn t e,sc,n=>ndS n fun s=>zme s (fun ts y=>on1 ts fun x=>zqe x y && zaq x && chk t sc (.t x) && chk e sc (.e y))
 | .asgnC i _ hc elt t it cond,sc,n=>ndS n fun s=>zcg N[i]? fun x=>zvb s sc x (fun e=>zva e sc t N (fun e it' ifs sc'=>G.hd && chk it sc (.e it') && chk elt sc' (.e e) && lc hc ifs (fun q=>chk cond sc' (.q q))))
 | .ite t a b,sc,n=>ndS n fun s=>zxs s (fun x y z=>chk t sc (.q x) && chk a sc (.b y) && chk b sc (.b z))
 | .for_ t it body,sc,n=>ndS n fun s=>zxv s (fun x y z o=>on0 o && zuo y && G.hd && chk t sc (.t x) && chk it sc (.e y) && chk body sc (.b z))
 | .dict _ _,sc,n=>ndE n fun e=>zjp e (fun ks vs=>on0 ks && on0 vs)
 | .dictL xs es,sc,n=>ndE n fun e=>zjp e (fun ks vs=>zed xs ks && decide (vs.length<=15) && decide (xs.length=vs.length) && chk es sc (.l vs))
 | .raise x es,sc,n=>ndS n fun s=>onRaise s fun o c=>c.isNone && zcg o fun e=>ze0 e (fun y xs=>y == x && gi sc x && G.hd && decide (xs.length<=1000) && chk es sc (.l xs))
 | .try_ body hs,sc,n=>ndS n fun s=>zxq s fun b h o z=>on0 o && on0 z && chk body sc (.b b) && chk hs sc (.hl h)
 | .handler x v body,sc,n=>(match n with
  | .hd h=>z7v h fun t nm b=>zcg t (fun t=>zjn t fun y=>y == x && gi sc x) && z8w N sc v nm && chk body sc (.b b)
  | _=>false)
 | .isx a tp xs,sc,n=>zur n fun e=>ze0 e (fun x ys=>x == Bf.isinstance.name && gi sc Bf.isinstance.name && on2 ys fun y z=>zaq y && zaq z && z13 sc tp xs z && chk a sc (.e y))
 | _,_,_=>false
end
end Mine
end
section
namespace Mine
open PySem
variable {c:Cx} {d:Nat} {sc:Scope} {σ:Led} {P P':V->Led->Prop} {X:XP} {G:Glob} {N:List Str} {ρ:Rho}
noncomputable def Nm (N:List Str) (ρ:Rho):zaf:=ρ.filterMap fun p=>N[p.1]?.map (·,p.2)
structure zil (N:List Str):Prop where
 nd:N.Nodup
 dot:(".0":Str)∉N
theorem zdg {i:Nat} {x:Str} {v:V} (hx:N[i]?=some x):Nm N ((i,v)::ρ)=(x,v)::Nm N ρ:=by
 unfold Nm;rw [List.filterMap_cons,hx];rfl
theorem zmh (ok:zil N) {i:Nat} {x:Str} (hx:N[i]?=some x) (ρ:Rho):(Nm N ρ).lookup x=ρ.lookup i:=by
 induction ρ with
 | nil=>rfl
 | cons p ρ ih=>
  rw [show p=(p.1,p.2) from rfl,List.lookup_cons]
  cases hj:N[p.1]? with
  | none=>
   rw [beq_eq_false_iff_ne.mpr fun (e:i=p.1)=>by rw [← e,hx] at hj;cases hj]
   unfold Nm at ih ⊢
   rw [List.filterMap_cons,hj]
   exact ih
  | some y=>
   rw [zdg hj,List.lookup_cons]
   by_cases e:i=p.1
   ·rw [← e,hx] at hj
    rw [Option.some.inj hj,beq_self_eq_true,beq_iff_eq.mpr e]
   ·obtain ⟨hi,e1⟩:=List.getElem?_eq_some_iff.mp hx
    obtain ⟨hj',e2⟩:=List.getElem?_eq_some_iff.mp hj
    rw [beq_eq_false_iff_ne.mpr fun (z:x=y)=>e ((List.getElem_inj ok.nd).mp (e1.trans (z.trans e2.symm))),beq_eq_false_iff_ne.mpr e]
    exact ih
theorem zqg {x:Str} {v:V}:∀ {ρ:Rho},(Nm N ρ).lookup x=some v->∃ i:Nat,N[i]?=some x
 | [],h=>by cases h
 | (j,w)::ρ,h=>by
  cases hj:N[j]? with
  | none=>unfold Nm at h;rw [List.filterMap_cons,hj] at h;exact zqg (ρ:=ρ) h
  | some y=>
   rw [zdg hj,List.lookup_cons] at h
   cases e:x == y with
   | true=>rw [eq_of_beq e];exact ⟨j,hj⟩
   | false=>rw [e] at h;exact zqg (ρ:=ρ) h
theorem zuq (ok:zil N):(Nm N ρ).lookup (".0":Str)=none:=by
 cases h:(Nm N ρ).lookup (".0":Str) with
 | none=>rfl
 | some v=>obtain ⟨i,hi⟩:=zqg h;exact absurd (List.mem_of_getElem? hi) ok.dot
def RSub (ρ' ρ:Rho):Prop:=∀ i v,ρ'.lookup i=some v->ρ.lookup i=some v
theorem z0d (ok:zil N) {ρ':Rho} (h:RSub ρ' ρ):Sub (Nm N ρ') (Nm N ρ):=fun x v e=>by
 obtain ⟨i,hi⟩:=zqg e
 rw [zmh ok hi] at e ⊢
 exact h i v e
theorem Sub.refl' {m:zaf}:Sub m m:=fun z1 z2 h=>h
def z7g (N:List Str) (K:Rho->Led->Prop) (m:zaf) (σ:Led):Prop:=∃ ρ,Sub (Nm N ρ) m/\K ρ σ
def zkb (N:List Str) (K:Fl->Rho->Led->Prop) (f:Fl) (m:zaf) (σ:Led):Prop:=∃ ρ,Sub (Nm N ρ) m/\K f ρ σ
def JE (c:Cx) (d:Nat) (X:XP) (t:T) (ρ:Rho) (σ:Led) (P:V->Led->Prop):Prop:=∀ G N sc e,GlobOk c.k G->zil N->chk G N t sc (.e e)=true->WE c d sc e (Nm N ρ) σ P X
def JT (c:Cx) (d:Nat) (X:XP) (t:T) (ρ:Rho) (σ:Led) (P:Bool->Led->Prop):Prop:=∀ G N sc e,GlobOk c.k G->zil N->chk G N t sc (.q e)=true->WT c d sc e (Nm N ρ) σ P X
def JTs (c:Cx) (d:Nat) (X:XP) (op:BoolOp) (t:T) (ρ:Rho) (σ:Led) (P:Bool->Led->Prop):Prop:=∀ G N sc es,GlobOk c.k G->zil N->chk G N t sc (.ql es)=true->WTs c d sc op es (Nm N ρ) σ P X
def JBo (c:Cx) (d:Nat) (X:XP) (op:BoolOp) (t:T) (ρ:Rho) (σ:Led) (P:V->Led->Prop):Prop:=∀ G N sc es,GlobOk c.k G->zil N->chk G N t sc (.l es)=true->WEb c d sc op es (Nm N ρ) σ P X
def JL (c:Cx) (d:Nat) (X:XP) (t:T) (ρ:Rho) (σ:Led) (P:List V->Led->Prop):Prop:=∀ G N sc es,GlobOk c.k G->zil N->chk G N t sc (.l es)=true->WEs c d sc es (Nm N ρ) σ P X
def JO (c:Cx) (d:Nat) (X:XP) (t:T) (ρ:Rho) (σ:Led) (P:Option Int->Led->Prop):Prop:=∀ G N sc o,GlobOk c.k G->zil N->chk G N t sc (.o o)=true->WEo c d sc o (Nm N ρ) σ P X
def JA (c:Cx) (d:Nat) (X:XP) (t:T) (v:V) (ρ:Rho) (σ:Led) (K:Rho->Led->Prop):Prop:=∀ G N sc e,GlobOk c.k G->zil N->chk G N t sc (.t e)=true->WA c d sc e v (Nm N ρ) σ (z7g N K) X
def JAs (c:Cx) (d:Nat) (X:XP) (t:T) (vs:List V) (ρ:Rho) (σ:Led) (K:Rho->Led->Prop):Prop:=∀ G N sc es,GlobOk c.k G->zil N->chk G N t sc (.tl es)=true->WAs c d sc es vs (Nm N ρ) σ (z7g N K) X
def JS (c:Cx) (d:Nat) (X:XP) (t:T) (ρ:Rho) (σ:Led) (K:Fl->Rho->Led->Prop):Prop:=∀ G N sc s,GlobOk c.k G->zil N->chk G N t sc (.s s)=true->WS c d sc s (Nm N ρ) σ (zkb N K) X
def JB (c:Cx) (d:Nat) (X:XP) (t:T) (ρ:Rho) (σ:Led) (K:Fl->Rho->Led->Prop):Prop:=∀ G N sc ss,GlobOk c.k G->zil N->chk G N t sc (.b ss)=true->WSs c d sc ss (Nm N ρ) σ (zkb N K) X
theorem zaa {a b:Bool} (h:(a && b)=true):a=true/\b=true:=Bool.and_eq_true_iff.mp h
theorem zcq {e:Expr} (h:zaq e=true) (es:List Expr) (env:Env):starEach (e::es) env=(false,eval e env)::starEach es env:=by
 cases e with
 | Starred=>cases h
 | _=>rfl
theorem zcd:∀ {es:List Expr},es.all zaq=true->∀ env,(starEach es env).any (·.1)=false
 | [],_,_=>rfl
 | e::es,h,env=>by
  obtain ⟨h1,h2⟩:=zaa h
  rw [zcq h1,List.any_cons,zcd h2 env];rfl
theorem zlh {e:Expr} (h:zaq e=true) (es:List Expr) (env:Env):assignEach (e::es) env=(false,assign e env)::assignEach es env:=by
 cases e with
 | Starred=>cases h
 | _=>rfl
theorem zow:∀ {es:List Expr},es.all zaq=true->∀ env,(assignEach es env).findIdx? (·.1)=none/\(assignEach es env).length=es.length
 | [],_,_=>⟨rfl,rfl⟩
 | e::es,h,env=>by
  obtain ⟨h1,h2⟩:=zaa h
  obtain ⟨i1,i2⟩:=zow h2 env
  rw [zlh h1]
  exact ⟨by rw [List.findIdx?_cons];simp [i1],by simp [i2]⟩
theorem zk6 {e:Expr} (h:zuo e=true) (env:Env) (x:Value):foldedSetIterable e env x=pure x:=by
 cases e with
 | Set=>cases h
 | _=>rfl
theorem ze1 {e:Expr} (h:zfs e=true) (o i:Value):subscripted e false o i=operate [o,i] (getItem o i):=by
 cases e with
 | Slice=>cases h
 | _=>rfl
theorem zkn {e:Expr} (h:zmg e=true) (t:Option Expr) (line:Nat) (env:Env):swapsWith e t line env=pure false:=by
 cases e with
 | ListComp=>cases h
 | SetComp=>cases h
 | DictComp=>cases h
 | _=>rfl
theorem ztl {x y:Expr} (h:zqe x y=true) (line:Nat) (env:Env):swapsWith y (some x) line env=pure false:=by
 rcases (Bool.or_eq_true _ _).mp h with q | q
 ·exact zkn q _ _ _
 ·refine Expr.Subscript.elim (motive_1:=fun x=>swapsWith y (some x) line env=pure false) x (eq_of_beq q) fun v i p=>?_
  by_cases k1:y.ctorIdx=8
  ·exact Expr.ListComp.elim (motive_1:=fun y=>swapsWith y (some (.Subscript v i p)) line env=pure false) y k1 fun z1 z2 z3 z4=>rfl
  by_cases k2:y.ctorIdx=9
  ·exact Expr.SetComp.elim (motive_1:=fun y=>swapsWith y (some (.Subscript v i p)) line env=pure false) y k2 fun z1 z2 z3 z4=>rfl
  by_cases k3:y.ctorIdx=10
  ·exact Expr.DictComp.elim (motive_1:=fun y=>swapsWith y (some (.Subscript v i p)) line env=pure false) y k3 fun z1 z2 z3 z4 z5=>rfl
  refine zkn ?_ _ _ _
  unfold zmg
  rw [bne_iff_ne.mpr k1,bne_iff_ne.mpr k2,bne_iff_ne.mpr k3];rfl
theorem zl6 {x:Str} {p:Pos} {e:Expr} (env:Env):swappedStores [.Name x p] e env=pure none:=rfl
theorem zrp {o i:Expr} {p:Pos} {e:Expr} (env:Env):swappedStores [.Subscript o i p] e env=pure none:=rfl
theorem zn8 {o:Expr} {x:Str} {p:Pos} {e:Expr} (env:Env):swappedStores [.Attribute o x p] e env=pure none:=rfl
theorem zro {ts:List Expr} {k:Nat} {p q:Pos} {o i:Expr} (env:Env):swappedStores [.Tuple ts k p] (.Subscript o i q) env=pure none:=rfl
end Mine
end
section
namespace Mine
open PySem
variable {c:Cx} {d:Nat} {sc:Scope} {σ:Led} {P P':V->Led->Prop} {X:XP} {G:Glob} {N:List Str} {ρ:Rho}
theorem JE.mono {t:T} (h:JE c d X t ρ σ P) (k:∀ v σ',P v σ'->P' v σ'):JE c d X t ρ σ P':=fun G N sc e hG hN hc=>(h G N sc e hG hN hc).mono k
theorem WEs.mono {es:List Expr} {m:zaf} {P P':List V->Led->Prop} (h:WEs c d sc es m σ P X) (k:∀ v σ',P v σ'->P' v σ'):WEs c d sc es m σ P' X:=fun env A s E pos r=>
 ⟨(h env A s E pos r).1,wpAny_mono (h env A s E pos r).2 (fun z1 z2=>.imp fun z1 z2 q=>⟨q.1,k _ _ q.2⟩) fun z1 z2 x=>x⟩
theorem WEo.mono {o:Option Expr} {m:zaf} {P P':Option Int->Led->Prop} (h:WEo c d sc o m σ P X) (k:∀ v σ',P v σ'->P' v σ'):WEo c d sc o m σ P' X:=fun env A s E r=>
 wpAny_mono (h env A s E r) (fun z1 z2=>.imp k) fun z1 z2 x=>x
theorem WS.mono {st:Stmt} {m:zaf} {K K':Fl->zaf->Led->Prop} (h:WS c d sc st m σ K X) (k:∀ f m' σ',K f m' σ'->K' f m' σ'):WS c d sc st m σ K' X:=fun env A s E r=>
 wpAny_mono (h env A s E r) (fun z1 z2=>.imp k) fun z1 z2 x=>x
theorem z2p {ts:List Expr} {vs:List V} {m m':zaf} {K:zaf->Led->Prop} (k:Sub m' m) (h:WAs c d sc ts vs m' σ K X):WAs c d sc ts vs m σ K X:=fun env A s E cvs r rv=>
 h env A s E cvs ⟨r.sc,r.ok,r.fr,r.a,r.st,r.er.sub k,r.e⟩ rv
theorem zrc {i:Int} (h:P (.int i) σ):JE c d X (.int i) ρ σ P:=fun G N sc e hG hN hc=>by
 rcases (Bool.or_eq_true _ _).mp (show (zhz e (.int i) || zjn e (fun x=>gi sc x && G.gInts.lookup x == some i))=true from hc) with q | q
 ·obtain ⟨k,n,p,rfl,e⟩:=zdf q
  rw [eq_of_beq e];exact z5k h
 ·obtain ⟨x,p,rfl,e⟩:=zbg q
  obtain ⟨e1,e2⟩:=zaa e
  exact zq7 hG.ok (hG.hInts x i (eq_of_beq e2)) h (zi5 e1)
theorem z6q {y:Str} (h:P (.str y) σ):JE c d X (.str y) ρ σ P:=fun G N sc e hG hN hc=>by
 rcases (Bool.or_eq_true _ _).mp (show (zhz e (.str y) || zjn e (fun x=>gi sc x && G.gStrs.lookup x == some y))=true from hc) with q | q
 ·obtain ⟨k,n,p,rfl,e⟩:=zdf q
  rw [eq_of_beq e];exact z0i h
 ·obtain ⟨x,p,rfl,e⟩:=zbg q
  obtain ⟨e1,e2⟩:=zaa e
  exact zq7 hG.ok (hG.hStrs x y (eq_of_beq e2)) h (zi5 e1)
theorem z3n {b:Bool} (h:P (.bool b) σ):JE c d X (.bool b) ρ σ P:=fun G N sc e hG hN hc=>by
 obtain ⟨k,n,p,rfl,e⟩:=zdf (show zhz e (.bool b)=true from hc)
 rw [eq_of_beq e];exact z2n h
theorem z3h (h:P .none σ):JE c d X .none ρ σ P:=fun G N sc e hG hN hc=>by
 obtain ⟨k,n,p,rfl,e⟩:=zdf (show zhz e .none=true from hc)
 rw [eq_of_beq e];exact z2i h
theorem zwq {i:Nat} {v:V} (hv:ρ.lookup i=some v) (h:P v σ):JE c d X (.var i) ρ σ P:=fun G N sc e hG hN hc=>by
 obtain ⟨x,p,rfl,e⟩:=zbg (show zjn e (fun x=>zu7 sc x && N[i]? == some x)=true from hc)
 obtain ⟨e1,e2⟩:=zaa e
 exact z2j ((zmh hN (eq_of_beq e2) ρ).trans hv) h e1
theorem z0s {op:Operator} {a b:T} (h:JE c d X a ρ σ (fun x σ₁=>JE c d X b ρ σ₁ (fun y σ₂=>Op2 c d (binaryOp op) x y σ₂ P))):JE c d X (.bin op a b) ρ σ P:=fun G N sc e hG hN hc=>by
 obtain ⟨l,o,r,p,rfl,e⟩:=zuj (show zxw e (fun l o r=>o == op && chk G N a sc (.e l) && chk G N b sc (.e r))=true from hc)
 obtain ⟨e1,e3⟩:=zaa e
 obtain ⟨e1,e2⟩:=zaa e1
 rw [eq_of_beq e1]
 exact zzb ((h G N sc l hG hN e2).mono fun x σ₁ q=>q G N sc r hG hN e3)
theorem z8m {op:UnaryOp} {a:T} (h:JE c d X a ρ σ (fun x σ₁=>Op1 c d (unaryOp op) x σ₁ P)):JE c d X (.un op a) ρ σ P:=fun G N sc e hG hN hc=>by
 obtain ⟨o,l,p,rfl,e⟩:=zp7 (show z30 e (fun o l=>o == op && chk G N a sc (.e l))=true from hc)
 obtain ⟨e1,e2⟩:=zaa e
 rw [eq_of_beq e1]
 exact zy4 (h G N sc l hG hN e2)
theorem zvr {op:CmpOp} {a b:T} {e:Expr} (hc:zr4 e (fun l os rs=>os == [op] && on1 rs fun r=>!behindInMarks op r && chk G N a sc (.e l) && chk G N b sc (.e r))=true) :
  ∃ l r p,e=.Compare l [op] [r] p/\behindInMarks op r=false/\chk G N a sc (.e l)=true/\chk G N b sc (.e r)=true:=by
 obtain ⟨l,os,rs,p,rfl,e⟩:=zmd hc
 obtain ⟨e1,e2⟩:=zaa e
 obtain ⟨r,rfl,e3⟩:=zhp e2
 obtain ⟨e3,e5⟩:=zaa e3
 obtain ⟨e3,e4⟩:=zaa e3
 rw [eq_of_beq e1]
 exact ⟨l,r,p,rfl,by simpa using e3,e4,e5⟩
theorem z6x {op:CmpOp} {a b:T} (h:JE c d X a ρ σ (fun x σ₁=>JE c d X b ρ σ₁ (fun y σ₂=>Op2 c d (compareOp op) x y σ₂ P))):JE c d X (.cmp op a b) ρ σ P:=fun G N sc e hG hN hc=>by
 obtain ⟨l,r,p,rfl,e1,e2,e3⟩:=zvr hc
 exact z5l ((h G N sc l hG hN e2).mono fun x σ₁ q=>q G N sc r hG hN e3) e1
theorem z6b {op:CmpOp} {a b:T} {P:Bool->Led->Prop} (h:JE c d X a ρ σ (fun x σ₁=>JE c d X b ρ σ₁ (fun y σ₂=>Op2 c d (compareOp op) x y σ₂ (fun v σ₃=>∃ t,v=.bool t/\P t σ₃)))):JT c d X (.cmp op a b) ρ σ P:=fun G N sc e hG hN hc=>by
 obtain ⟨l,r,p,rfl,e1,e2,e3⟩:=zvr hc
 exact z5f ((h G N sc l hG hN e2).mono fun x σ₁ q=>q G N sc r hG hN e3) e1
theorem zqy {o₁ o₂:CmpOp} {a b b':T} {e:Expr} (hc:zr4 e (fun l os rs=>os == [o₁,o₂] && on2 rs fun r r'=>!behindInMarks o₂ r' && chk G N a sc (.e l) && chk G N b sc (.e r) && chk G N b' sc (.e r'))=true) :
  ∃ l r r' p,e=.Compare l [o₁,o₂] [r,r'] p/\behindInMarks o₂ r'=false/\chk G N a sc (.e l)=true/\chk G N b sc (.e r)=true/\chk G N b' sc (.e r')=true:=by
 obtain ⟨l,os,rs,p,rfl,e⟩:=zmd hc
 obtain ⟨e1,e2⟩:=zaa e
 obtain ⟨r,r',rfl,e3⟩:=zod e2
 obtain ⟨e3,e6⟩:=zaa e3
 obtain ⟨e3,e5⟩:=zaa e3
 obtain ⟨e3,e4⟩:=zaa e3
 rw [eq_of_beq e1]
 exact ⟨l,r,r',p,rfl,by simpa using e3,e4,e5,e6⟩
theorem Op2.mono {t:Value->Value->Sem Value} {a b:V} (h:Op2 c d t a b σ P) (k:∀ v σ',P v σ'->P' v σ'):Op2 c d t a b σ P':=fun A s E ca cb ha hs ra rb=>
 wpAny_mono (h A s E ca cb ha hs ra rb) (fun z1 z2=>.imp k) fun z1 z2 x=>x
theorem z3l {o₁ o₂:CmpOp} {a b b':T} (h:JE c d X a ρ σ (fun x σ₁=>JE c d X b ρ σ₁ (fun y σ₂=>Op2 c d (compareOp o₁) x y σ₂ (fun v σ₃=>∃ t,v=.bool t/\if t=true then JE c d X b' ρ σ₃ (fun z σ₄=>Op2 c d (compareOp o₂) y z σ₄ P) else P (.bool false) σ₃)))) :
  JE c d X (.cmp2 a o₁ b o₂ b') ρ σ P:=fun G N sc e hG hN hc=>by
 obtain ⟨l,r,r',p,rfl,e1,e2,e3,e4⟩:=zqy hc
 refine z2l ((h G N sc l hG hN e2).mono fun x σ₁ q=>(q G N sc r hG hN e3).mono fun y σ₂ q=>q.mono fun v σ₃ q=>?_) e1
 obtain ⟨t,q1,q2⟩:=q
 refine ⟨t,q1,?_⟩
 cases t with
 | true=>exact q2 G N sc r' hG hN e4
 | false=>exact q2
theorem z29 {o₁ o₂:CmpOp} {a b b':T} {P:Bool->Led->Prop} (h:JE c d X a ρ σ (fun x σ₁=>JE c d X b ρ σ₁ (fun y σ₂=>Op2 c d (compareOp o₁) x y σ₂ (fun v σ₃=>∃ t,v=.bool t/\if t=true then JE c d X b' ρ σ₃ (fun z σ₄=>Op2 c d (compareOp o₂) y z σ₄ (fun v σ₅=>∃ t,v=.bool t/\P t σ₅)) else P false σ₃)))) :
  JT c d X (.cmp2 a o₁ b o₂ b') ρ σ P:=fun G N sc e hG hN hc=>by
 obtain ⟨l,r,r',p,rfl,e1,e2,e3,e4⟩:=zqy hc
 refine z2a ((h G N sc l hG hN e2).mono fun x σ₁ q=>(q G N sc r hG hN e3).mono fun y σ₂ q=>q.mono fun v σ₃ q=>?_) e1
 obtain ⟨t,q1,q2⟩:=q
 refine ⟨t,q1,?_⟩
 cases t with
 | true=>exact q2 G N sc r' hG hN e4
 | false=>exact q2
theorem z57 {a:T} {P:Bool->Led->Prop} (h:JT c d X a ρ σ (fun b σ₁=>P (!b) σ₁)):JT c d X (.un .Not a) ρ σ P:=fun G N sc e hG hN hc=>by
 obtain ⟨o,l,p,rfl,e⟩:=zp7 (show z30 e (fun o l=>o == .Not && UnaryOp.Not == .Not && chk G N a sc (.q l))=true from hc)
 obtain ⟨e1,e2⟩:=zaa e
 obtain ⟨e1,_⟩:=zaa e1
 rw [eq_of_beq e1]
 exact z5e (h G N sc l hG hN e2)
theorem z8i {op:BoolOp} {es:T} {P:Bool->Led->Prop} (h:JTs c d X op es ρ σ P):JT c d X (.bo op es) ρ σ P:=fun G N sc e hG hN hc=>by
 obtain ⟨o,l,p,rfl,e⟩:=zqb (show z31 e (fun o xs=>o == op && chk G N es sc (.ql xs))=true from hc)
 obtain ⟨e1,e2⟩:=zaa e
 rw [eq_of_beq e1]
 exact z2b (h G N sc l hG hN e2)
theorem zpd {P:Bool->Led->Prop} (h:P true σ):JTs c d X .And .nil ρ σ P:=fun G N sc es hG hN hc=>by
 rw [za1 (show on0 es=true from hc)];exact zoz h
theorem zst {P:Bool->Led->Prop} (h:P false σ):JTs c d X .Or .nil ρ σ P:=fun G N sc es hG hN hc=>by
 rw [za1 (show on0 es=true from hc)];exact zsm h
theorem z26 {a r:T} {P:Bool->Led->Prop} (h:JT c d X a ρ σ (fun b σ₁=>if b=true then JTs c d X .And r ρ σ₁ P else P false σ₁)):JTs c d X .And (.cons a r) ρ σ P:=fun G N sc es hG hN hc=>by
 obtain ⟨e,es,rfl,q⟩:=zap (show za8 es (fun e es=>chk G N a sc (.q e) && chk G N r sc (.ql es))=true from hc)
 obtain ⟨e1,e2⟩:=zaa q
 refine z19 ((h G N sc e hG hN e1).mono fun b σ₁ q=>?_)
 cases b with
 | true=>exact q G N sc es hG hN e2
 | false=>exact q
theorem z55 {a r:T} {P:Bool->Led->Prop} (h:JT c d X a ρ σ (fun b σ₁=>if b=true then P true σ₁ else JTs c d X .Or r ρ σ₁ P)):JTs c d X .Or (.cons a r) ρ σ P:=fun G N sc es hG hN hc=>by
 obtain ⟨e,es,rfl,q⟩:=zap (show za8 es (fun e es=>chk G N a sc (.q e) && chk G N r sc (.ql es))=true from hc)
 obtain ⟨e1,e2⟩:=zaa q
 refine z5d ((h G N sc e hG hN e1).mono fun b σ₁ q=>?_)
 cases b with
 | true=>exact q
 | false=>exact q G N sc es hG hN e2
theorem z56 {i:Nat} {P:Bool->Led->Prop} (h:JE c d X (.var i) ρ σ (fun v σ₁=>∃ b,v=.bool b/\P b σ₁)):JT c d X (.var i) ρ σ P:=fun G N sc e hG hN hc=>by
 have h1:=h G N sc e hG hN hc
 obtain ⟨x,p,rfl,_⟩:=zbg hc
 exact zc1 h1 (fun z1 z2=>rfl)
theorem z3a {f:Str} {es:T} {P:Bool->Led->Prop} (h:JE c d X (.call f es) ρ σ (fun v σ₁=>∃ b,v=.bool b/\P b σ₁)):JT c d X (.call f es) ρ σ P:=fun G N sc e hG hN hc=>by
 have h1:=h G N sc e hG hN hc
 obtain ⟨g,xs,ks,p,rfl,_⟩:=zbr hc
 exact zc1 h1 (fun z1 z2=>rfl)
theorem z6c {f:Bf} {es:T} {P:Bool->Led->Prop} (h:JE c d X (.blt f es) ρ σ (fun v σ₁=>∃ b,v=.bool b/\P b σ₁)):JT c d X (.blt f es) ρ σ P:=fun G N sc e hG hN hc=>by
 have h1:=h G N sc e hG hN hc
 obtain ⟨g,xs,ks,p,rfl,_⟩:=zbr hc
 exact zc1 h1 (fun z1 z2=>rfl)
theorem z59 {a:T} {f:Bf} {P:Bool->Led->Prop} (h:JE c d X (.isi a f) ρ σ (fun v σ₁=>∃ b,v=.bool b/\P b σ₁)):JT c d X (.isi a f) ρ σ P:=fun G N sc e hG hN hc=>by
 have h1:=h G N sc e hG hN hc
 obtain ⟨g,xs,ks,p,rfl,_⟩:=zbr hc
 exact zc1 h1 (fun z1 z2=>rfl)
theorem z27 {o es:T} {x:Str} {P:Bool->Led->Prop} (h:JE c d X (.meth o x es) ρ σ (fun v σ₁=>∃ b,v=.bool b/\P b σ₁)):JT c d X (.meth o x es) ρ σ P:=fun G N sc e hG hN hc=>by
 have h1:=h G N sc e hG hN hc
 obtain ⟨g,xs,ks,p,rfl,_⟩:=zbr hc
 exact zc1 h1 (fun z1 z2=>rfl)
theorem z28 {a b:T} {P:Bool->Led->Prop} (h:JE c d X (.item a b) ρ σ (fun v σ₁=>∃ b,v=.bool b/\P b σ₁)):JT c d X (.item a b) ρ σ P:=fun G N sc e hG hN hc=>by
 have h1:=h G N sc e hG hN hc
 obtain ⟨v,i,p,rfl,_⟩:=zdd hc
 exact zc1 h1 (fun z1 z2=>rfl)
theorem z6w {q:T} {v:V} (h:∀ Q:V->Led->Prop,Q v σ->JE c d X q ρ σ Q) (k:P v σ):JE c d X (.cut q) ρ σ P:=fun G N sc e hG hN hc=>h P k G N sc e hG hN hc
theorem z6a {q:T} {b:Bool} {P:Bool->Led->Prop} (h:∀ Q:Bool->Led->Prop,Q b σ->JT c d X q ρ σ Q) (k:P b σ):JT c d X (.cut q) ρ σ P:=fun G N sc e hG hN hc=>h P k G N sc e hG hN hc
theorem z6v {t a b:T} (h:JT c d X t ρ σ (fun k σ₁=>if k=true then JE c d X a ρ σ₁ P else JE c d X b ρ σ₁ P)):JE c d X (.ife t a b) ρ σ P:=fun G N sc e hG hN hc=>by
 obtain ⟨x,y,z,p,rfl,e⟩:=zxt (show z7i e (fun x y z=>chk G N t sc (.q x) && chk G N a sc (.e y) && chk G N b sc (.e z))=true from hc)
 obtain ⟨e1,e3⟩:=zaa e
 obtain ⟨e1,e2⟩:=zaa e1
 refine zy8 ((h G N sc x hG hN e1).mono fun k σ₁ q=>?_)
 cases k with
 | true=>exact q G N sc y hG hN e2
 | false=>exact q G N sc z hG hN e3
theorem z8n {op:BoolOp} {es:T} (h:JBo c d X op es ρ σ P):JE c d X (.bo op es) ρ σ P:=fun G N sc e hG hN hc=>by
 obtain ⟨o,l,p,rfl,e⟩:=zqb (show z31 e (fun o xs=>o == op && chk G N es sc (.l xs))=true from hc)
 obtain ⟨e1,e2⟩:=zaa e
 rw [eq_of_beq e1]
 exact zv5 (h G N sc l hG hN e2)
theorem zdr {a r:T} {es:List Expr} (hc:chk G N (.cons a r) sc (.l es)=true):∃ e es',es=e::es'/\zaq e=true/\es'.all zaq=true/\chk G N a sc (.e e)=true/\chk G N r sc (.l es')=true:=by
 obtain ⟨e,es',rfl,q⟩:=zap (show za8 es (fun e es=>zaq e && es.all zaq && chk G N a sc (.e e) && chk G N r sc (.l es))=true from hc)
 obtain ⟨e1,e4⟩:=zaa q
 obtain ⟨e1,e3⟩:=zaa e1
 obtain ⟨e1,e2⟩:=zaa e1
 exact ⟨e,es',rfl,e1,e2,e3,e4⟩
theorem z3p {op:BoolOp} {a:T} (h:JE c d X a ρ σ P):JBo c d X op (.cons a .nil) ρ σ P:=fun G N sc es hG hN hc=>by
 obtain ⟨e,es',rfl,_,_,e1,e2⟩:=zdr hc
 rw [za1 (show on0 es'=true from e2)]
 exact z2g (h G N sc e hG hN e1)
theorem z3q {a b r:T} (h:JE c d X a ρ σ (fun v σ₁=>∃ t,v=.bool t/\if t=true then JBo c d X .And (.cons b r) ρ σ₁ P else P (.bool false) σ₁)):JBo c d X .And (.cons a (.cons b r)) ρ σ P:=fun G N sc es hG hN hc=>by
 obtain ⟨e,es',rfl,_,_,e1,e2⟩:=zdr hc
 obtain ⟨e',es'',rfl,_⟩:=zdr e2
 refine z2h ((h G N sc e hG hN e1).mono fun v σ₁ ⟨t,q1,q2⟩=>⟨t,q1,?_⟩)
 cases t with
 | true=>exact q2 G N sc _ hG hN e2
 | false=>exact q2
theorem z6z {a b r:T} (h:JE c d X a ρ σ (fun v σ₁=>∃ t,v=.bool t/\if t=true then P (.bool true) σ₁ else JBo c d X .Or (.cons b r) ρ σ₁ P)):JBo c d X .Or (.cons a (.cons b r)) ρ σ P:=fun G N sc es hG hN hc=>by
 obtain ⟨e,es',rfl,_,_,e1,e2⟩:=zdr hc
 obtain ⟨e',es'',rfl,_⟩:=zdr e2
 refine z5i ((h G N sc e hG hN e1).mono fun v σ₁ ⟨t,q1,q2⟩=>⟨t,q1,?_⟩)
 cases t with
 | true=>exact q2
 | false=>exact q2 G N sc _ hG hN e2
theorem z6o {P:List V->Led->Prop} (h:P [] σ):JL c d X .nil ρ σ P:=fun G N sc es hG hN hc=>by
 rw [za1 (show on0 es=true from hc)];exact zo2 h
theorem z3g {a r:T} {P:List V->Led->Prop} (h:JE c d X a ρ σ (fun v σ₁=>JL c d X r ρ σ₁ (fun vs σ₂=>P (v::vs) σ₂))):JL c d X (.cons a r) ρ σ P:=fun G N sc es hG hN hc=>by
 obtain ⟨e,es',rfl,e1,e2,e3,e4⟩:=zdr hc
 exact ze5 ((h G N sc e hG hN e3).mono fun v σ₁ q=>q G N sc es' hG hN e4) (zcq e1 es') (zcd e2)
theorem z6p {es:T} (h:JL c d X es ρ σ (fun vs σ₁=>P (.tup vs) σ₁)):JE c d X (.tup es) ρ σ P:=fun G N sc e hG hN hc=>by
 obtain ⟨xs,k,p,rfl,e⟩:=zdc (show zi0 e (fun xs=>decide (xs.length<=1000) && chk G N es sc (.l xs))=true from hc)
 obtain ⟨e1,e2⟩:=zaa e
 exact zy5 (h G N sc xs hG hN e2) (of_decide_eq_true e1)
theorem z6r {es:T} (h:JL c d X es ρ σ (fun vs σ₁=>P (.lst vs) σ₁)):JE c d X (.lst false es) ρ σ P:=fun G N sc e hG hN hc=>by
 obtain ⟨xs,p,rfl,e⟩:=zp8 (show z4e e (fun xs=>decide (xs.length<=1000) && chk G N es sc (.l xs))=true from hc)
 obtain ⟨e1,e2⟩:=zaa e
 exact z2k (h G N sc xs hG hN e2) (of_decide_eq_true e1)
theorem z6s {es:T} (h:JL c d X es ρ σ (fun vs σ₁=>∀ a,a∉zab σ₁->a∉c.F->P (.ref a) ((a,.list vs)::σ₁))):JE c d X (.lst true es) ρ σ P:=fun G N sc e hG hN hc=>by
 obtain ⟨xs,p,rfl,e⟩:=zp8 (show z4e e (fun xs=>decide (xs.length<=1000) && chk G N es sc (.l xs))=true from hc)
 obtain ⟨e1,e2⟩:=zaa e
 exact zo3 (h G N sc xs hG hN e2) (of_decide_eq_true e1)
theorem zfw {e:Expr} {f:Str->List Expr->Bool} (hc:ze0 e f=true):∃ x q xs p,e=.Call (.Name x q) xs [] p/\f x xs=true:=by
 obtain ⟨h,xs,ks,p,rfl,e⟩:=zbr hc
 rw [za1 (zaa e).1]
 obtain ⟨x,q,rfl,w⟩:=zbg (zaa e).2
 exact ⟨x,q,xs,p,rfl,w⟩
theorem zef {a b c:Bool} (h:(a && b && c)=true):a=true/\b=true/\c=true:=⟨(zaa (zaa h).1).1,(zaa (zaa h).1).2,(zaa h).2⟩
theorem zqh {e:Expr} {f:Str} {g:Bool} {h:List Expr->Bool} (hc:ze0 e (fun x xs=>x == f && g && h xs)=true):∃ q xs p,e=.Call (.Name f q) xs [] p/\g=true/\h xs=true:=by
 obtain ⟨x,q,xs,p,rfl,w⟩:=zfw hc
 obtain ⟨e1,e2,e3⟩:=zef w
 rw [eq_of_beq e1]
 exact ⟨q,xs,p,rfl,e2,e3⟩
theorem zq1 {f:Str} {es:T} {e:Expr} {g:Bool} (hc:ze0 e (fun x xs=>x == f && gi sc f && g && chk G N es sc (.l xs))=true):∃ q xs p,e=.Call (.Name f q) xs [] p/\gi sc f=true/\g=true/\chk G N es sc (.l xs)=true:=by
 obtain ⟨x,q,xs,p,rfl,w⟩:=zfw hc
 obtain ⟨w,e3,e4⟩:=zef w
 rw [eq_of_beq (zaa w).1]
 exact ⟨q,xs,p,rfl,(zaa w).2,e3,e4⟩
theorem z3m {f:Str} {es:T} (h:JL c d X es ρ σ (fun vs σ₁=>CallN c d f vs σ₁ P X)):JE c d X (.call f es) ρ σ P:=fun G N sc e hG hN hc=>by
 obtain ⟨q,xs,p,rfl,e1,e2,e3⟩:=zq1 hc
 exact zza hG.ok (hG.hDefs f e2) (h G N sc xs hG hN e3) (zi5 e1)
theorem zsj (f:Bf):Callee c f.val:=by
 cases f <;> first | exact .b | exact .t
theorem z6y {f:Bf} {es:T} (h:JL c d X es ρ σ (fun vs σ₁=>c.k.hd=true->CallS c d f.val vs σ₁ P X)):JE c d X (.blt f es) ρ σ P:=fun G N sc e hG hN hc=>by
 obtain ⟨q,xs,p,rfl,e1,e2,e3⟩:=zq1 hc
 exact zli hG.ok (hG.hBlts f) ((h G N sc xs hG hN e3).mono fun z1 z2 q=>q (hG.hd e2)) (zsj f) (zi5 e1)
theorem z1r {sc:Scope} {f:Str} {g:Expr->Bool} {xs:List Expr} (h:(on2 xs fun y z=>zaq y && zjn z (fun x=>x == f && gi sc f) && g y)=true):∃ y q,xs=[y,.Name f q]/\zaq y=true/\gi sc f=true/\g y=true:=by
 obtain ⟨y,z,rfl,r⟩:=zod h
 obtain ⟨w1,w2,w3⟩:=zef r
 obtain ⟨x',q',rfl,u⟩:=zbg w2
 rw [eq_of_beq (zaa u).1]
 exact ⟨y,q',rfl,w1,(zaa u).2,w3⟩
theorem z6u {f:Bf} {a:T} (h:JE c d X a ρ σ (fun v σ₁=>CallS c d (.builtin "isinstance") [v,.raw f.val] σ₁ P X)):JE c d X (.isi a f) ρ σ P:=fun G N sc e hG hN hc=>by
 obtain ⟨q,xs,p,rfl,e2,e3⟩:=zqh (h:=fun xs=>on2 xs fun y z=>zaq y && zjn z (fun x=>x == f.name && gi sc f.name) && chk G N a sc (.e y)) hc
 obtain ⟨y,q',rfl,w1,u2,w3⟩:=z1r (g:=fun y=>chk G N a sc (.e y)) e3
 exact zli hG.ok (hG.hBlts .isinstance) (ze5 ((h G N sc y hG hN w3).mono fun v σ₁ k=>ze5 (z0k hG.ok (hG.hBlts f) (zo2 k) (zi5 u2)) (zcq rfl _) (zcd rfl)) (zcq w1 _) (zcd rfl)) .b (zi5 e2)
theorem zqi {e:Expr} {x:Str} {f:Expr->List Expr->Bool} (hc:zu8 e x f=true):∃ b ap xs p,e=.Call (.Attribute b x ap) xs [] p/\za7 b=true/\(ap.endLine == p.line)=true/\xs.all zaq=true/\xs.length<30/\f b xs=true:=by
 obtain ⟨g,xs,ks,p,rfl,e⟩:=zbr hc
 obtain ⟨k1,k2⟩:=zaa e
 rw [za1 k1]
 obtain ⟨b,y,ap,rfl,w⟩:=zfr k2
 obtain ⟨e1,e6⟩:=zaa w
 obtain ⟨e1,e5⟩:=zaa e1
 obtain ⟨e1,e4⟩:=zaa e1
 obtain ⟨e1,e3⟩:=zaa e1
 obtain ⟨e1,e2⟩:=zaa e1
 rw [eq_of_beq e1]
 exact ⟨b,ap,xs,p,rfl,e2,e3,e4,of_decide_eq_true e5,e6⟩
theorem zzt {o es:T} {x:Str} (h:JE c d X o ρ σ (fun ov σ₁=>∃ f,zwp c σ₁ ov x f/\JL c d X es ρ σ₁ (fun vs σ₂=>CallS c d f (ov::vs) σ₂ P X))):JE c d X (.methI o x es) ρ σ P:=fun G N sc e hG hN hc=>by
 obtain ⟨b,ap,xs,p,rfl,e2,e3,e4,e5,e6⟩:=zqi (f:=fun p xs=>chk G N o sc (.e p) && chk G N es sc (.l xs)) hc
 exact zy7 e2 e3 ((h G N sc b hG hN (zaa e6).1).mono fun ov σ₁ ⟨f,q1,q2⟩=>⟨f,q1,q2 G N sc xs hG hN (zaa e6).2⟩) (zcd e4) e5
theorem zq2 {e:Expr} {x:Str} {f:Expr->Bool} (hc:zjq e (fun o y z1=>y == x && za7 o && f o)=true):∃ b p,e=.Attribute b x p/\za7 b=true/\f b=true:=by
 obtain ⟨b,y,p,rfl,w⟩:=zfr hc
 obtain ⟨w1,w2,w3⟩:=zef w
 rw [eq_of_beq w1]
 exact ⟨b,p,rfl,w2,w3⟩
theorem z3o {o:T} {x:Str} (h:JE c d X o ρ σ (fun ov σ₁=>∃ v,Fld c σ₁ ov x v/\P v σ₁)):JE c d X (.attr o x) ρ σ P:=fun G N sc e hG hN hc=>by
 obtain ⟨b,p,rfl,e1,e2⟩:=zq2 (f:=fun b=>chk G N o sc (.e b)) hc
 exact z2o e1 (h G N sc b hG hN e2)
theorem z3i {o es:T} {x:Str} (h:JE c d X o ρ σ (fun ov σ₁=>∃ T id,zzp c σ₁ ov x T id/\JL c d X es ρ σ₁ (fun vs σ₂=>CallS c d (.builtin id) (ov::vs) σ₂ P X))):JE c d X (.meth o x es) ρ σ P:=fun G N sc e hG hN hc=>by
 obtain ⟨b,ap,xs,p,rfl,e2,e3,e4,e5,e6⟩:=zqi (f:=fun p xs=>chk G N o sc (.e p) && chk G N es sc (.l xs)) hc
 exact zv3 e2 e3 ((h G N sc b hG hN (zaa e6).1).mono fun ov σ₁ ⟨T,id,q1,q2⟩=>⟨T,id,q1,q2 G N sc xs hG hN (zaa e6).2⟩) (zcd e4) e5
def zln (c:Cx) (d:Nat) (a b:V) (σ:Led) (P:V->Led->Prop):Prop:=∀ v i,zfs i=true->Op2 c d (PyProof.Rows.subscriptTail v i) a b σ P
theorem ztm {a b:T} {e:Expr} (hc:zob e (fun v i=>zfs i && chk G N a sc (.e v) && chk G N b sc (.e i))=true):∃ v i p,e=.Subscript v i p/\zfs i=true/\chk G N a sc (.e v)=true/\chk G N b sc (.e i)=true:=by
 obtain ⟨v,i,p,rfl,e⟩:=zdd hc
 obtain ⟨e1,e3⟩:=zaa e
 obtain ⟨e1,e2⟩:=zaa e1
 exact ⟨v,i,p,rfl,e1,e2,e3⟩
theorem zwr {a b:T} (h:JE c d X a ρ σ (fun x σ₁=>JE c d X b ρ σ₁ (fun y σ₂=>zln c d x y σ₂ P))):JE c d X (.item a b) ρ σ P:=fun G N sc e hG hN hc=>by
 obtain ⟨v,i,p,rfl,e1,e2,e3⟩:=ztm hc
 exact z5j ((h G N sc v hG hN e2).mono fun x σ₁ q=>(q G N sc i hG hN e3).mono fun y σ₂ q=>q v i e1)
theorem z6k {P:Option Int->Led->Prop} (h:P none σ):JO c d X .nil ρ σ P:=fun G N sc o hG hN hc=>by
 cases o with
 | none=>exact zy3 h
 | some e=>cases hc
theorem z6l {i:Int} {P:Option Int->Led->Prop} (h:JE c d X (.int i) ρ σ (fun v σ₁=>∃ i,v=.int i/\P (some i) σ₁)):JO c d X (.int i) ρ σ P:=fun G N sc o hG hN hc=>by
 cases o with
 | none=>cases hc
 | some e=>exact zds (h G N sc e hG hN hc)
theorem z6j {i:Nat} {P:Option Int->Led->Prop} (h:JE c d X (.var i) ρ σ (fun v σ₁=>∃ i,v=.int i/\P (some i) σ₁)):JO c d X (.var i) ρ σ P:=fun G N sc o hG hN hc=>by
 cases o with
 | none=>cases hc
 | some e=>exact zds (h G N sc e hG hN hc)
theorem z6n {op:Operator} {a b:T} {P:Option Int->Led->Prop} (h:JE c d X (.bin op a b) ρ σ (fun v σ₁=>∃ i,v=.int i/\P (some i) σ₁)):JO c d X (.bin op a b) ρ σ P:=fun G N sc o hG hN hc=>by
 cases o with
 | none=>cases hc
 | some e=>exact zds (h G N sc e hG hN hc)
theorem z8j {op:UnaryOp} {a:T} {P:Option Int->Led->Prop} (h:JE c d X (.un op a) ρ σ (fun v σ₁=>∃ i,v=.int i/\P (some i) σ₁)):JO c d X (.un op a) ρ σ P:=fun G N sc o hG hN hc=>by
 cases o with
 | none=>cases hc
 | some e=>exact zds (h G N sc e hG hN hc)
theorem z3f {f:Str} {es:T} {P:Option Int->Led->Prop} (h:JE c d X (.call f es) ρ σ (fun v σ₁=>∃ i,v=.int i/\P (some i) σ₁)):JO c d X (.call f es) ρ σ P:=fun G N sc o hG hN hc=>by
 cases o with
 | none=>cases hc
 | some e=>exact zds (h G N sc e hG hN hc)
theorem z6m {f:Bf} {es:T} {P:Option Int->Led->Prop} (h:JE c d X (.blt f es) ρ σ (fun v σ₁=>∃ i,v=.int i/\P (some i) σ₁)):JO c d X (.blt f es) ρ σ P:=fun G N sc o hG hN hc=>by
 cases o with
 | none=>cases hc
 | some e=>exact zds (h G N sc e hG hN hc)
theorem zzs {a lo hi:T} (h:JE c d X a ρ σ (fun x σ₁=>JO c d X lo ρ σ₁ (fun l σ₂=>JO c d X hi ρ σ₂ (fun u σ₃=>∃ w,zeh σ₃ l u x w/\P w σ₃)))):JE c d X (.slice a lo hi) ρ σ P:=fun G N sc e hG hN hc=>by
 obtain ⟨v,i,p,rfl,e⟩:=zdd (show zob e (fun v s=>z7h s fun l h st=>st.isNone && chk G N a sc (.e v) && chk G N lo sc (.o l) && chk G N hi sc (.o h))=true from hc)
 obtain ⟨l,u,st,p,rfl,e⟩:=zxr e
 obtain ⟨e1,e4⟩:=zaa e
 obtain ⟨e1,e3⟩:=zaa e1
 obtain ⟨e1,e2⟩:=zaa e1
 cases st with
 | some _=>cases e1
 | none=>exact zy6 ((h G N sc v hG hN e2).mono fun x σ₁ q=>(q G N sc l hG hN e3).mono fun y σ₂ q=>q G N sc u hG hN e4)
end Mine
end
section
namespace Mine
open PySem
variable {c:Cx} {d:Nat} {sc:Scope} {σ:Led} {P P':V->Led->Prop} {X:XP} {G:Glob} {N:List Str} {ρ:Rho} {K K':Fl->Rho->Led->Prop}
theorem JB.mono {t:T} (h:JB c d X t ρ σ K) (k:∀ f ρ' σ',K f ρ' σ'->K' f ρ' σ'):JB c d X t ρ σ K':=fun G N sc e hG hN hc=>(h G N sc e hG hN hc).mono fun f m' σ' ⟨ρ',q1,q2⟩=>⟨ρ',q1,k _ _ _ q2⟩
theorem za6 {t:T} {ρ':Rho} (k:RSub ρ' ρ) (h:JB c d X t ρ' σ K):JB c d X t ρ σ K:=fun G N sc e hG hN hc=>zo0 (z0d hN k) (h G N sc e hG hN hc)
theorem JA.mono {t:T} {v:V} {K K':Rho->Led->Prop} (h:JA c d X t v ρ σ K) (k:∀ ρ' σ',K ρ' σ'->K' ρ' σ'):JA c d X t v ρ σ K':=fun G N sc e hG hN hc=>(h G N sc e hG hN hc).mono fun m' σ' ⟨ρ',q1,q2⟩=>⟨ρ',q1,k _ _ q2⟩
theorem zwt {t:T} {v:V} {ρ':Rho} {K:Rho->Led->Prop} (k:RSub ρ' ρ) (h:JA c d X t v ρ' σ K):JA c d X t v ρ σ K:=fun G N sc e hG hN hc=>z0l (z0d hN k) (h G N sc e hG hN hc)
theorem z0u {i:Nat} {v:V} {K:Rho->Led->Prop} (h:K ((i,v)::ρ) σ):JA c d X (.var i) v ρ σ K:=fun G N sc e hG hN hc=>by
 obtain ⟨x,p,rfl,q⟩:=zbg (show zjn e (fun x=>zk3 sc x && N[i]? == some x)=true from hc)
 obtain ⟨e1,e2⟩:=zaa q
 exact zv6 ⟨_,by rw [zdg (eq_of_beq e2)];exact Sub.refl',h⟩ e1
theorem z3r {K:Rho->Led->Prop} (h:K ρ σ):JAs c d X .nil [] ρ σ K:=fun G N sc es hG hN hc=>by
 rw [za1 (show on0 es=true from hc)];exact z2q ⟨ρ,Sub.refl',h⟩
theorem zzv {a r:T} {v:V} {vs:List V} {K:Rho->Led->Prop} (hl:∀ G N sc es,chk G N r sc (.tl es)=true->es.length=vs.length)
  (h:JA c d X a v ρ σ (fun ρ₁ σ₁=>JAs c d X r vs ρ₁ σ₁ K)):JAs c d X (.cons a r) (v::vs) ρ σ K:=fun G N sc es hG hN hc=>by
 obtain ⟨e,es',rfl,q⟩:=zap (show za8 es (fun e es=>zaq e && es.all zaq && chk G N a sc (.t e) && chk G N r sc (.tl es))=true from hc)
 obtain ⟨e1,e4⟩:=zaa q
 obtain ⟨e1,e3⟩:=zaa e1
 obtain ⟨e1,e2⟩:=zaa e1
 exact zzc ((h G N sc e hG hN e3).mono fun m' σ' ⟨ρ',k1,k2⟩=>z2p k1 (k2 G N sc es' hG hN e4)) (zlh e1 es') (fun env=>by rw [(zow e2 env).2,hl G N sc es' e4]) (fun env=>(zow e2 env).1)
theorem z60 {ts:T} {vs:List V} {K:Rho->Led->Prop} (h:JAs c d X ts vs ρ σ K):JA c d X (.tup ts) (.tup vs) ρ σ K:=fun G N sc e hG hN hc=>by
 obtain ⟨xs,k,p,rfl,q⟩:=zdc (show zi0 e (fun xs=>G.hd && chk G N ts sc (.tl xs))=true from hc)
 exact zzd (hG.hd (zaa q).1) (h G N sc xs hG hN (zaa q).2)
theorem z3s {a b:T} {v:V} {K:Rho->Led->Prop} (h:JE c d X a ρ σ (fun ov σ₁=>JE c d X b ρ σ₁ (fun iv σ₂=>zei c d ov iv v σ₂ (fun σ₃=>K ρ σ₃)))):JA c d X (.item a b) v ρ σ K:=fun G N sc e hG hN hc=>by
 obtain ⟨o,i,p,rfl,e1,e2,e3⟩:=ztm hc
 refine z2r ((h G N sc o hG hN e2).mono fun x σ₁ q=>(q G N sc i hG hN e3).mono fun y σ₂ q A s E co ci cv ha hs ro ri rv=>wpAny_mono (q A s E co ci cv ha hs ro ri rv) (fun z1 z2=>.imp fun z1 q=>⟨ρ,Sub.refl',q⟩) fun z1 z2 x=>x)
theorem z3t {a:T} {x:Str} {v:V} {K:Rho->Led->Prop} (h:JE c d X a ρ σ (fun ov σ₁=>zv8 c d ov x v σ₁ (fun σ₂=>K ρ σ₂))):JA c d X (.attr a x) v ρ σ K:=fun G N sc e hG hN hc=>by
 obtain ⟨b,p,rfl,_,e2⟩:=zq2 (f:=fun b=>chk G N a sc (.e b)) hc
 exact z2s ((h G N sc b hG hN e2).mono fun ov σ₁ q A s E co cv ha hs ro rv=>wpAny_mono (q A s E co cv ha hs ro rv) (fun z1 z2=>.imp fun z1 q=>⟨ρ,Sub.refl',q⟩) fun z1 z2 x=>x)
theorem z0t (h:K .next ρ σ):JB c d X .nil ρ σ K:=fun G N sc ss hG hN hc=>by
 rw [za1 (show on0 ss=true from hc)];exact z2c ⟨ρ,Sub.refl',h⟩
noncomputable def ztc (K:Fl->Rho->Led->Prop) (R:Rho->Led->Prop):Fl->Rho->Led->Prop
 | .next,ρ,σ=>R ρ σ
 | f,ρ,σ=>K f ρ σ
def kJB (c:Cx) (d:Nat) (X:XP) (r:T) (K:Fl->Rho->Led->Prop) (ρ:Rho) (σ:Led):Prop:=JB c d X r ρ σ K
theorem zws {a r:T} (h:JS c d X a ρ σ (ztc K (kJB c d X r K))):JB c d X (.cons a r) ρ σ K:=fun G N sc ss hG hN hc=>by
 obtain ⟨s,ss',rfl,q⟩:=zap (show za8 ss (fun s ss=>chk G N a sc (.s s) && chk G N r sc (.b ss))=true from hc)
 obtain ⟨e1,e2⟩:=zaa q
 refine zyz ((h G N sc s hG hN e1).mono fun f m' σ' ⟨ρ',k1,k2⟩=>?_)
 cases f with
 | next=>exact zo0 k1 (k2 G N sc ss' hG hN e2)
 | brk=>exact ⟨ρ',k1,k2⟩
 | cont=>exact ⟨ρ',k1,k2⟩
 | ret v=>exact ⟨ρ',k1,k2⟩
theorem z6e {e:T} (h:JE c d X e ρ σ (fun v σ₁=>K (.ret v) ρ σ₁)):JS c d X (.ret e) ρ σ K:=fun G N sc s hG hN hc=>by
 obtain ⟨o,p,rfl,q⟩:=zmb (show zrz s (fun o=>zcg o fun x=>chk G N e sc (.e x))=true from hc)
 obtain ⟨x,rfl,q⟩:=zbl q
 exact zv1 ((h G N sc x hG hN q).mono fun v σ₁ k=>⟨ρ,Sub.refl',k⟩)
theorem z3b (h:K (.ret .none) ρ σ):JS c d X .ret0 ρ σ K:=fun G N sc s hG hN hc=>by
 obtain ⟨o,p,rfl,q⟩:=zmb (show zrz s (fun o=>o.isNone)=true from hc)
 cases o with
 | some _=>cases q
 | none=>exact zja ⟨ρ,Sub.refl',h⟩
theorem z3c (h:K .next ρ σ):JS c d X .pass ρ σ K:=fun G N sc s hG hN hc=>by
 obtain ⟨p,rfl⟩:=zr0 hc;exact z2d ⟨ρ,Sub.refl',h⟩
theorem z6h (h:K .brk ρ σ):JS c d X .brk ρ σ K:=fun G N sc s hG hN hc=>by
 obtain ⟨p,rfl⟩:=zui hc;exact zy1 ⟨ρ,Sub.refl',h⟩
theorem z3e (h:K .cont ρ σ):JS c d X .cont ρ σ K:=fun G N sc s hG hN hc=>by
 obtain ⟨p,rfl⟩:=zr2 hc;exact zo1 ⟨ρ,Sub.refl',h⟩
theorem z3d {e:T} (h:JE c d X e ρ σ (fun z1 σ₁=>K .next ρ σ₁)):JS c d X (.expr e) ρ σ K:=fun G N sc s hG hN hc=>by
 obtain ⟨x,p,rfl,q⟩:=zr1 (show zp9 s (fun x=>zmg x && chk G N e sc (.e x))=true from hc)
 obtain ⟨e1,e2⟩:=zaa q
 exact z2e ((h G N sc x hG hN e2).mono fun v σ₁ k=>⟨ρ,Sub.refl',k⟩) (fun env=>zkn e1 _ _ env)
theorem z6f {t a b:T} (h:JT c d X t ρ σ (fun k σ₁=>if k=true then JB c d X a ρ σ₁ K else JB c d X b ρ σ₁ K)):JS c d X (.ite t a b) ρ σ K:=fun G N sc s hG hN hc=>by
 obtain ⟨x,y,z,p,rfl,q⟩:=zuc (show zxs s (fun x y z=>chk G N t sc (.q x) && chk G N a sc (.b y) && chk G N b sc (.b z))=true from hc)
 obtain ⟨e1,e3⟩:=zaa q
 obtain ⟨e1,e2⟩:=zaa e1
 refine z8b ((h G N sc x hG hN e1).mono fun k σ₁ q=>?_)
 cases k with
 | true=>exact q G N sc y hG hN e2
 | false=>exact q G N sc z hG hN e3
theorem zyv {t e:T} {s:Stmt} (hc:chk G N (.asgn t e) sc (.s s)=true):∃ x y p,s=.Assign [x] y p/\zqe x y=true/\zaq x=true/\chk G N t sc (.t x)=true/\chk G N e sc (.e y)=true:=by
 obtain ⟨ts,y,p,rfl,q⟩:=zjr (show zme s (fun ts y=>on1 ts fun x=>zqe x y && zaq x && chk G N t sc (.t x) && chk G N e sc (.e y))=true from hc)
 obtain ⟨x,rfl,q⟩:=zhp q
 obtain ⟨e1,e4⟩:=zaa q
 obtain ⟨e1,e3⟩:=zaa e1
 obtain ⟨e1,e2⟩:=zaa e1
 exact ⟨x,y,p,rfl,e1,e2,e3,e4⟩
theorem zlk {t e:T} (ht:∀ G N sc x y,chk G N t sc (.t x)=true->chk G N e sc (.e y)=true->∀ env,swappedStores [x] y env=pure none)
  (h:JE c d X e ρ σ (fun v σ₁=>JA c d X t v ρ σ₁ (fun ρ' σ'=>K .next ρ' σ'))):JS c d X (.asgn t e) ρ σ K:=fun G N sc s hG hN hc=>by
 obtain ⟨x,y,p,rfl,e1,e2,e3,e4⟩:=zyv hc
 exact zm6 ((h G N sc y hG hN e4).mono fun v σ₁ q=>q G N sc x hG hN e3) (fun env z1=>ztl e1 _ env) (ht G N sc x y e3 e4) (fun env=>by rw [zlh e2];rfl)
theorem zrn {i:Nat} {e:T}:∀ G N sc x y,chk G N (.var i) sc (.t x)=true->chk G N e sc (.e y)=true->∀ env,swappedStores [x] y env=pure none:=fun G N sc x y h z1 env=>by
 obtain ⟨x,p,rfl,_⟩:=zbg h;exact zl6 env
theorem zl7 {a:T} {x:Str} {e:T}:∀ G N sc y z,chk G N (.attr a x) sc (.t y)=true->chk G N e sc (.e z)=true->∀ env,swappedStores [y] z env=pure none:=fun G N sc y z h z1 env=>by
 obtain ⟨b,_,p,rfl,_⟩:=zfr h;exact zn8 env
theorem zn7 {a b e:T}:∀ G N sc x y,chk G N (.item a b) sc (.t x)=true->chk G N e sc (.e y)=true->∀ env,swappedStores [x] y env=pure none:=fun G N sc x y h z1 env=>by
 obtain ⟨v,i,p,rfl,_⟩:=zdd h;exact zrp env
theorem zn6 {ts a b:T}:∀ G N sc x y,chk G N (.tup ts) sc (.t x)=true->chk G N (.item a b) sc (.e y)=true->∀ env,swappedStores [x] y env=pure none:=fun G N sc x y h h' env=>by
 obtain ⟨es,k,p,rfl,_⟩:=zdc h
 obtain ⟨v,i,p,rfl,_⟩:=zdd h';exact zro env
noncomputable def JLoop (c:Cx) (d:Nat) (t body:T) (K:Fl->Rho->Led->Prop):List V->Rho->Led->Prop
 | [],ρ,σ=>K .next ρ σ
 | v::vs,ρ,σ=>JA c d NoX t v ρ σ (fun ρ₁ σ₁=>JB c d NoX body ρ₁ σ₁ (fun fl ρ₂ σ₂=>match fl with
   | .next | .cont=>JLoop c d t body K vs ρ₂ σ₂
   | .brk=>K .next ρ₂ σ₂
   | .ret w=>K (.ret w) ρ₂ σ₂))
theorem JLoop.w {t body:T} {x:Expr} {ss:List Stmt} (hG:GlobOk c.k G) (hN:zil N) (h1:chk G N t sc (.t x)=true) (h2:chk G N body sc (.b ss)=true) (vs:List V):∀ (ρ:Rho) (σ:Led) (m:zaf),Sub (Nm N ρ) m->JLoop c d t body K vs ρ σ->zv2 c d sc x ss (zkb N K) vs m σ:=by
 induction vs with
 | nil=>exact fun ρ σ m hm h=>⟨ρ,hm,h⟩
 | cons v vs ih=>
  intro ρ σ m hm h
  refine z0l hm ((h G N sc x hG hN h1).mono fun m₁ σ₁ ⟨ρ₁,k1,k2⟩=>zo0 k1 ((k2 G N sc ss hG hN h2).mono fun fl m₂ σ₂ ⟨ρ₂,q1,q2⟩=>?_))
  cases fl with
  | next=>exact ih ρ₂ σ₂ m₂ q1 q2
  | cont=>exact ih ρ₂ σ₂ m₂ q1 q2
  | brk=>exact ⟨ρ₂,q1,q2⟩
  | ret w=>exact ⟨ρ₂,q1,q2⟩
theorem z6g {t it body:T} (h:JE c d X it ρ σ (fun lv σ₁=>∃ vs F,(∀ b∈F,b∈zab σ₁)/\zc6 (c.pro F) σ₁ lv vs/\JLoop (c.pro F) d t body K vs ρ σ₁)):JS c d X (.for_ t it body) ρ σ K:=fun G N sc s hG hN hc=>by
 obtain ⟨x,y,z,o,p,rfl,q⟩:=zue (show zxv s (fun x y z o=>on0 o && zuo y && G.hd && chk G N t sc (.t x) && chk G N it sc (.e y) && chk G N body sc (.b z))=true from hc)
 obtain ⟨e1,e5⟩:=zaa q
 obtain ⟨e1,e4⟩:=zaa e1
 obtain ⟨e1,e3⟩:=zaa e1
 obtain ⟨e1,e0⟩:=zaa e1
 obtain ⟨e1,e2⟩:=zaa e1
 rw [za1 e1]
 exact z5h (hG.hd e0) ((h G N sc y hG hN e4).mono fun lv σ₁ ⟨vs,F,k1,k2,k3⟩=>⟨vs,F,k1,k2,JLoop.w (c:=c.pro F) hG hN e3 e5 vs ρ σ₁ _ Sub.refl' k3⟩) (zk6 e2)
noncomputable def z71 {α β:Type} (K:Fl->Rho->Led->Prop) (M:β->Rho) (L:β->Led) (J:List α->β->Prop) (rest:List α) (s:β):Fl->Rho->Led->Prop
 | .next,ρ,σ=>RSub (M s) ρ/\σ=L s/\J rest s
 | .cont,ρ,σ=>RSub (M s) ρ/\σ=L s/\J rest s
 | .brk,ρ,σ=>K .next ρ σ
 | .ret w,ρ,σ=>K (.ret w) ρ σ
theorem zpe {t body:T} {α β:Type} (f:α->V) (M:β->Rho) (L:β->Led) (g:β->α->β) (J:List α->β->Prop) (rows:List α):∀ (s:β) (ρ:Rho),RSub (M s) ρ->J rows s->
  (∀ s a rest,J (a::rest) s->JA c d NoX t (f a) (M s) (L s) (kJB c d NoX body (z71 K M L J rest (g s a))))->
  (∀ ρ,RSub (M (rows.foldl g s)) ρ->J [] (rows.foldl g s)->K .next ρ (L (rows.foldl g s)))->JLoop c d t body K (rows.map f) ρ (L s):=by
 induction rows with
 | nil=>exact fun s ρ hm hj z1 h=>h ρ hm hj
 | cons a rows ih=>
  intro s ρ hm hj hstep h
  refine zwt hm ((hstep s a rows hj).mono fun ρ₁ σ₁ q=>JB.mono q fun fl ρ₂ σ₂ q=>?_)
  have go:RSub (M (g s a)) ρ₂/\σ₂=L (g s a)/\J rows (g s a)->JLoop c d t body K (rows.map f) ρ₂ σ₂:=fun q=>q.2.1 ▸ ih _ ρ₂ q.1 q.2.2 hstep h
  cases fl with
  | next=>exact go q
  | cont=>exact go q
  | brk=>exact q
  | ret w=>exact q
noncomputable def zyn (a:T):O:=if a.ctorIdx=0 then .dictI [] else .dictS []
theorem z3j {a b:T} (h:∀ r,r∉zab σ->r∉c.F->P (.ref r) ((r,zyn a)::σ)):JE c d X (.dict a b) ρ σ P:=fun G N sc e hG hN hc=>by
 obtain ⟨ks,vs,p,rfl,q⟩:=zjo (show zjp e (fun ks vs=>on0 ks && on0 vs)=true from hc)
 obtain ⟨e1,e2⟩:=zaa q
 rw [za1 e1,za1 e2]
 by_cases z:a.ctorIdx=0
 ·rw [show zyn a=.dictI [] from if_pos z] at h
  exact zq6 hG.ok DK.int h
 ·rw [show zyn a=.dictS [] from if_neg z] at h
  exact zq6 hG.ok DK.str h
def JP (c:Cx) (d:Nat) (X:XP) (xs:List Str) (t:T) (ρ:Rho) (σ:Led) (P:List V->Led->Prop):Prop:=∀ G N sc ks es,GlobOk c.k G->zil N->zed xs ks=true->chk G N t sc (.l es)=true->WPs c d sc xs ks es (Nm N ρ) σ P X
theorem z6i {P:List V->Led->Prop} (h:P [] σ):JP c d X [] .nil ρ σ P:=fun G N sc ks es hG hN hk hc=>by
 rw [za1 (show on0 es=true from hc),za1 (show on0 ks=true from hk)];exact z2f h
theorem zf5 {x:Str} {xs:List Str} {a r:T} {P:List V->Led->Prop} (h:JE c d X a ρ σ (fun v σ₁=>JP c d X xs r ρ σ₁ (fun vs σ₂=>P (v::vs) σ₂))):JP c d X (x::xs) (.cons a r) ρ σ P:=fun G N sc ks es hG hN hk hc=>by
 obtain ⟨e,es,rfl,q⟩:=zap (show za8 es (fun e es=>zaq e && es.all zaq && chk G N a sc (.e e) && chk G N r sc (.l es))=true from hc)
 obtain ⟨q,e4⟩:=zaa q
 obtain ⟨q,e3⟩:=zaa q
 obtain ⟨k,ks,rfl,q⟩:=zap (show za8 ks (fun k r=>zcg k (fun e=>zhz e (.str x)) && zed xs r)=true from hk)
 obtain ⟨q1,q2⟩:=zaa q
 obtain ⟨k,rfl,q1⟩:=zbl q1
 obtain ⟨k,n,p,rfl,z⟩:=zdf q1
 rw [eq_of_beq z]
 exact zy2 (fun P' hp=>z0i hp) ((h G N sc e hG hN e3).mono fun v σ₁ q=>q G N sc ks es hG hN q2 e4)
theorem zu2 {xs:List Str}:∀ {ks:List (Option Expr)},zed xs ks=true->ks.all (·.isSome)=true/\ks.length=xs.length:=by
 induction xs with
 | nil=>exact fun h=>za1 h ▸ ⟨rfl,rfl⟩
 | cons x xs ih=>
  intro ks h
  obtain ⟨k,ks,rfl,q⟩:=zap (show za8 ks (fun k r=>zcg k (fun e=>zhz e (.str x)) && zed xs r)=true from h)
  obtain ⟨k,rfl,_⟩:=zbl (zaa q).1
  have q2:=ih (zaa q).2
  exact ⟨by rw [List.all_cons,q2.1];rfl,by rw [List.length_cons,List.length_cons,q2.2]⟩
theorem zzu {xs:List Str} {es:T} (h0:xs≠[]) (hnd:xs.Nodup) (h:∀ r,r∉zab σ->r∉c.F->JP c d X xs es ρ ((r,.dictS [])::σ) (fun ws σ₁=>σ₁.lookup r=some (.dictS [])/\P (.ref r) (upd r (.dictS (xs.zip ws)) σ₁))):JE c d X (.dictL xs es) ρ σ P:=fun G N sc e hG hN hc=>by
 obtain ⟨ks,vs,p,rfl,q⟩:=zjo (show zjp e (fun ks vs=>zed xs ks && decide (vs.length<=15) && decide (xs.length=vs.length) && chk G N es sc (.l vs))=true from hc)
 obtain ⟨q,e4⟩:=zaa q
 obtain ⟨q,e3⟩:=zaa q
 obtain ⟨e1,e2⟩:=zaa q
 obtain ⟨k1,k2⟩:=zu2 e1
 have z3:xs.length=vs.length:=of_decide_eq_true e3
 have z2:vs.length<=15:=of_decide_eq_true e2
 exact zy9 hG.ok k1 (k2.trans z3) (fun z=>h0 (by rw [z] at k2;exact List.length_eq_zero_iff.mp k2.symm)) (by rw [k2,z3];exact z2) hnd fun r hr hF=>h r hr hF G N sc ks vs hG hN e1 e4
def JD (c:Cx) (d:Nat) (X:XP) (xs:List Str) (es:T) (ρ:Rho) (σ:Led) (P:V->Led->Prop):Prop:=JE c d X (.dictL xs es) ρ σ P
theorem z8o {xs:List Str} {es:T} (h0:xs≠[]) (hnd:xs.Nodup) (h:∀ r,r∉zab σ->r∉c.F->JP c d X xs es ρ ((r,.dictS [])::σ) (fun ws σ₁=>σ₁.lookup r=some (.dictS [])/\P (.ref r) (upd r (.dictS (xs.zip ws)) σ₁))):JD c d X xs es ρ σ P:=zzu h0 hnd h
noncomputable def JK (K:Fl->Rho->Led->Prop) (N:Rho->Led->Prop):Fl->Rho->Led->Prop
 | .next,ρ,σ=>N ρ σ
 | .cont,ρ,σ=>N ρ σ
 | .brk,ρ,σ=>K .next ρ σ
 | .ret w,ρ,σ=>K (.ret w) ρ σ
def JIf (c:Cx) (d:Nat) (hc:Bool) (cond:T) (ρ:Rho) (σ:Led) (P:Bool->Led->Prop):Prop:=match hc with
 | false=>P true σ
 | true=>JT c d NoX cond ρ σ P
noncomputable def JComp (c:Cx) (d:Nat) (ns:List Nat) (hc:Bool) (cond elt:T) (ρ:Rho) (Kf:List V->Led->Prop):List V->List V->Led->Prop
 | [],acc,σ=>Kf acc σ
 | v::vs,acc,σ=>∃ ρ₁,bnd ns v ρ=some ρ₁/\JIf c d hc cond ρ₁ σ (fun b σ₁=>if b=true then JE c d NoX elt ρ₁ σ₁ (fun w σ₂=>JComp c d ns hc cond elt ρ Kf vs (acc++[w]) σ₂) else JComp c d ns hc cond elt ρ Kf vs acc σ₁)
theorem zup {N:List Str} {i:Nat} {r:List Nat} {xs:List Str} (h:nms N (i::r)=some xs):∃ x ys,N[i]?=some x/\nms N r=some ys/\xs=x::ys:=by
 unfold nms at h
 cases h1:N[i]? with
 | none=>rw [h1] at h;cases h
 | some x=>
  cases h2:nms N r with
  | none=>rw [h1,h2] at h;cases h
  | some ys=>rw [h1,h2] at h;exact ⟨x,ys,rfl,rfl,(Option.some.inj h).symm⟩
theorem z1i {N:List Str} {ns:List Nat}:∀ {xs:List Str},nms N ns=some xs->xs.length=ns.length:=by
 induction ns with
 | nil=>exact fun h=>Option.some.inj h ▸ rfl
 | cons i r ih=>
  intro xs h
  obtain ⟨x,ys,_,h2,rfl⟩:=zup h
  exact congrArg (·+1) (ih h2)
theorem z4i {N:List Str} {ns:List Nat}:∀ {xs:List Str} {vs:List V} {ρ:Rho},nms N ns=some xs->Nm N ((ns.zip vs).reverseAux ρ)=(xs.zip vs).reverseAux (Nm N ρ):=by
 induction ns with
 | nil=>exact fun h=>Option.some.inj h ▸ rfl
 | cons i r ih=>
  intro xs vs ρ h
  cases vs with
  | nil=>rw [List.zip_nil_right,List.zip_nil_right];rfl
  | cons v vs=>
   obtain ⟨x,ys,h1,h2,rfl⟩:=zup h
   show Nm N ((r.zip vs).reverseAux ((i,v)::ρ))=(ys.zip vs).reverseAux ((x,v)::Nm N ρ)
   rw [ih h2,zdg h1]
theorem z4j {N:List Str} {ns:List Nat} {xs:List Str} {v:V} {ρ ρ₁:Rho} (hn:nms N ns=some xs) (h:bnd ns v ρ=some ρ₁):bnd xs v (Nm N ρ)=some (Nm N ρ₁):=by
 obtain ⟨vs,hv,rfl⟩:=Option.map_eq_some_iff.mp h
 unfold bnd
 rw [z1i hn,hv,z4i hn];rfl
theorem JIf.w {hb:Bool} {cond:T} {ifs:List Expr} {P P':Bool->Led->Prop} (hG:GlobOk c.k G) (hN:zil N) (hc:lc hb ifs (fun q=>chk G N cond sc (.q q))=true) (h:JIf c d hb cond ρ σ P) (k:∀ b σ',P b σ'->P' b σ'):WIfs c d sc ifs (Nm N ρ) σ P':=by
 cases hb with
 | false=>rw [za1 (show on0 ifs=true from hc)];exact k _ _ h
 | true=>
  obtain ⟨e,rfl,q⟩:=zhp hc
  exact WT.mono (h G N sc e hG hN q) k
theorem JComp.w {hb:Bool} {ns:List Nat} {cond elt:T} {Kf Kf':List V->Led->Prop} {xs:List Str} {elt':Expr} {ifs:List Expr} (hG:GlobOk c.k G) (hN:zil N) (h1:nms N ns=some xs) (h2:chk G N elt sc (.e elt')=true) (h3:lc hb ifs (fun q=>chk G N cond sc (.q q))=true) (hk:∀ ws σ',Kf ws σ'->Kf' ws σ') (vs:List V) :
  ∀ (acc:List V) (σ:Led),JComp c d ns hb cond elt ρ Kf vs acc σ->zjb c d sc xs ifs elt' (Nm N ρ) Kf' vs acc σ:=by
 induction vs with
 | nil=>exact fun acc σ h=>hk _ _ h
 | cons v vs ih=>
  intro acc σ h
  obtain ⟨ρ₁,hb',h'⟩:=h
  refine ⟨Nm N ρ₁,z4j h1 hb',h'.w hG hN h3 fun b σ₁ q=>?_⟩
  cases b with
  | true=>exact (q G N sc elt' hG hN h2).mono fun w σ₂ q=>ih _ σ₂ q
  | false=>exact ih acc σ₁ q
theorem zof:∀ {xs:List Str} {ts:List Expr},nmB xs ts=true->zm9 ts xs
 | [],ts,h=>by rw [za1 (show on0 ts=true from h)];rfl
 | x::xs,ts,h=>by
  obtain ⟨t,r,rfl,q⟩:=zap (show za8 ts _=true from h)
  obtain ⟨q1,q2⟩:=zaa q
  obtain ⟨y,p,rfl,e⟩:=zbg q1
  rw [eq_of_beq e]
  exact ⟨x,p,xs,rfl,rfl,zof q2⟩
theorem z02 {xs:List Str} {te:Expr} (h:tgB xs te=true):zjc te xs:=by
 match xs,h with
 | [x],h=>
  obtain ⟨y,p,rfl,e⟩:=zbg (show zjn te (fun y=>y == x)=true from h)
  rw [eq_of_beq e];exact .one
 | [],h=>
  obtain ⟨ts,k,p,rfl,q⟩:=zdc (show zi0 te (fun ts=>nmB [] ts)=true from h)
  exact .many (zof q) (by simp)
 | x::y::r,h=>
  obtain ⟨ts,k,p,rfl,q⟩:=zdc (show zi0 te (fun ts=>nmB (x::y::r) ts)=true from h)
  exact .many (zof q) (by simp)
inductive z0v (N:List Str) (sc:Scope) (f:Expr->Expr->List Expr->Scope->Bool) (ns:List Nat):Expr->Prop
 | mk {elt' it' te:Expr} {ifs:List Expr} {scope:Scope} {xs:List Str} {p:Pos}:ze3 scope sc xs=true->zuo it'=true->nms N ns=some xs->f elt' it' ifs (zb5 scope sc)=true->zjc te xs->z0v N sc f ns (.ListComp elt' [⟨te,it',ifs,0⟩] scope p)
theorem zqx {f:Expr->Expr->List Expr->Scope->Bool} {ns:List Nat} {e:Expr} (hc:zva e sc ns N f=true):z0v N sc f ns e:=by
 obtain ⟨elt',gs,scope,p,rfl,q⟩:=zr3 hc
 clear hc
 obtain ⟨g,rfl,q⟩:=zhp q
 obtain ⟨e1,q⟩:=zaa q
 obtain ⟨te,it',ifs,z⟩:=g
 have:=eq_of_beq e1
 dsimp only at this
 subst this
 clear e1
 obtain ⟨xs,hx,q⟩:=zbl q
 obtain ⟨q,e4⟩:=zaa q
 obtain ⟨e1,e2,e3⟩:=zef q
 exact .mk e2 e3 hx e4 (z02 e1)
noncomputable def z46 (G:Glob) (N:List Str) (sc:Scope) (hb:Bool) (cond elt it:T):Expr->Expr->List Expr->Scope->Bool:=fun e it' ifs sc'=>G.hd && chk G N it sc (.e it') && chk G N elt sc' (.e e) && lc hb ifs (fun q=>chk G N cond sc' (.q q))
theorem z0g {hb:Bool} {ns:List Nat} {cond elt:T} {Kf Kf':List V->Led->Prop} {xs:List Str} {elt':Expr} {ifs:List Expr} {lv:V} (hG:GlobOk c.k G) (hN:zil N) (h1:nms N ns=some xs) (h2:chk G N elt sc (.e elt')=true) (h3:lc hb ifs (fun q=>chk G N cond sc (.q q))=true) (hk:∀ ws σ',Kf ws σ'->Kf' ws σ')
  (k:∃ vs F,(∀ b∈F,b∈zab σ)/\zc6 (c.pro F) σ lv vs/\∀ D,JComp ((c.pro F).hide D) d ns hb cond elt ρ Kf vs [] σ):∃ vs F,(∀ b∈F,b∈zab σ)/\zc6 (c.pro F) σ lv vs/\∀ D,zjb ((c.pro F).hide D) d sc xs ifs elt' (Nm N ρ) Kf' vs [] σ:=
 k.elim fun vs k=>k.elim fun F k=>⟨vs,F,k.1,k.2.1,fun D=>JComp.w (c:=(c.pro F).hide D) hG hN h1 h2 h3 hk vs [] σ (k.2.2 D)⟩
theorem z3k {loc hb:Bool} {ns:List Nat} {cond elt it:T} (h:JE c d X it ρ σ (fun lv σ₁=>∃ vs F,(∀ b∈F,b∈zab σ₁)/\zc6 (c.pro F) σ₁ lv vs/\∀ D,JComp ((c.pro F).hide D) d ns hb cond elt ρ (zss c.F loc P) vs [] σ₁)):JE c d X (.comp loc hb elt ns it cond) ρ σ P:=fun G N sc e hG hN hc=>by
 cases zqx (f:=z46 G N sc hb cond elt it) hc with
 | mk ok set nm q tg=>exact zgh (hG.hd (zaa (zaa (zaa q).1).1).1) (loc:=loc) tg ok (zuq hN) ((h G N sc _ hG hN (zaa (zaa (zaa q).1).1).2).mono fun z1 z2 k=>z0g hG hN nm (zaa (zaa q).1).2 (zaa q).2 (fun z1 z2 q=>q) k) (zk6 set)
inductive zw2 (sc:Scope) (x:Str) (f:Expr->Bool):Stmt->Prop
 | mk {px p:Pos} {y:Expr}:zk3 sc x=true->(zmc y fun z1 z2 scope pos=>!(sc.names.lookup x == some .local) || (px.line == pos.line && !(scope.names.any fun (n,k)=>n == x && (k == .local || k == .cell))))=true->f y=true->zw2 sc x f (.Assign [.Name x px] y p)
theorem zvx {s:Stmt} {x:Str} {f:Expr->Bool} (q:zvb s sc x f=true):zw2 sc x f s:=by
 obtain ⟨ts,y,p,rfl,q⟩:=zjr q
 obtain ⟨tg,rfl,q⟩:=zhp q
 obtain ⟨z,px,rfl,q⟩:=zub q
 obtain ⟨e1,e8⟩:=zaa q
 obtain ⟨e1,e3⟩:=zaa e1
 obtain ⟨e1,e2⟩:=zaa e1
 have:=eq_of_beq e1;subst this
 exact .mk e2 e3 e8
theorem z7u {a b:Bool} (h:(!a || b)=true) (ha:a=true):b=true:=by rw [ha] at h;exact h
theorem zsb {i:Nat} {z:Str} {F:List Addr} {loc:Bool} {ws:List V} (hx:N[i]?=some z) (q:zss F loc (fun v σ'=>K .next ((i,v)::ρ) σ') ws σ):zss F loc (fun v σ'=>zkb N K .next ((z,v)::Nm N ρ) σ') ws σ:=by
 cases loc with
 | true=>exact fun a h1 h2=>⟨_,by rw [zdg hx];exact Sub.refl',q a h1 h2⟩
 | false=>exact ⟨_,by rw [zdg hx];exact Sub.refl',q⟩
theorem zzr {i:Nat} {loc hb:Bool} {ns:List Nat} {cond elt it:T} (h:JE c d X it ρ σ (fun lv σ₁=>∃ vs F,(∀ b∈F,b∈zab σ₁)/\zc6 (c.pro F) σ₁ lv vs/\∀ D,JComp ((c.pro F).hide D) d ns hb cond elt ρ (zss c.F loc fun v σ'=>K .next ((i,v)::ρ) σ') vs [] σ₁)) :
  JS c d X (.asgnC i loc hb elt ns it cond) ρ σ K:=fun G N sc s hG hN hc=>by
 obtain ⟨x,hx,q⟩:=zbl (show zcg N[i]? _=true from hc)
 cases zvx q with
 | mk e2 e3 e8=>cases zqx (f:=z46 G N sc hb cond elt it) e8 with
 | mk ok set nm w tg=>
  have hh:=hG.hd (zaa (zaa (zaa w).1).1).1
  have hW:=(h G N sc _ hG hN (zaa (zaa (zaa w).1).1).2).mono fun z1 z2 k=>z0g hG hN nm (zaa (zaa w).1).2 (zaa w).2 (fun z1 z2 q=>zsb hx q) k
  cases hl:(sc.names.lookup x == some .local) with
  | true=>exact zeg hh tg ok (zuq hN) (by rw [hl,Bool.true_and];exact z7u e3 hl) e2 hW (zk6 set)
  | false=>exact zm6 ((zgh hh tg ok (zuq hN) hW (zk6 set)).mono fun v σ₁ q=>zv6 q e2) (zrm hl) (fun env=>zl6 env) (fun z1=>rfl)
inductive z7o (k:Base) (x:Str):Value->Prop
 | own {C:Addr} {bm:List Value}:Exc k x C bm->z7o k x (.ref C)
 | ve:Blt k x (.type "ValueError")->z7o k x (.type "ValueError")
theorem z2m {m:zaf} (hc:c.k.OK) {x:Str} {cv:Value} {p:Pos} (h:z7o c.k x cv) (hk:sc.names.lookup x=some .globalImplicit) (hP:P (.raw cv) σ):WE c d sc (.Name x p) m σ P X:=by
 cases h with
 | own h=>exact z0j hc h hk hP
 | ve h=>exact z0k hc h hP hk
theorem z1q {x:Str} {g:Expr->Bool} {xs:List Expr} (h:(on2 xs fun y z=>zaq y && zaq z && z13 sc false [x] z && g y)=true):∃ y q,xs=[y,.Name x q]/\zaq y=true/\gi sc x=true/\g y=true:=by
 obtain ⟨y,z,rfl,r⟩:=zod h
 obtain ⟨r,r3,r4⟩:=zef r
 obtain ⟨w,l,k0,k⟩:=zap (show za8 [z] (fun e r=>zjn e (fun y=>y == x && gi sc x) && zqf sc [] r)=true from r3)
 cases k0
 obtain ⟨u,p',rfl,k5⟩:=zbg (zaa k).1
 rw [eq_of_beq (zaa k5).1]
 exact ⟨y,p',rfl,(zaa r).1,(zaa k5).2,r4⟩
def zzy (c:Cx) (d:Nat) (X:XP) (a:T) (tp:Bool) (xs:List Str) (ρ:Rho) (σ:Led) (P:V->Led->Prop):Prop:=∃ x cv,tp=false/\xs=[x]/\z7o c.k x cv/\JE c d X a ρ σ (fun v σ₁=>CallS c d (.builtin "isinstance") [v,.raw cv] σ₁ P X)
theorem z6t {a:T} {tp:Bool} {xs:List Str} (h:zzy c d X a tp xs ρ σ P):JE c d X (.isx a tp xs) ρ σ P:=fun G N sc e hG hN hc=>by
 obtain ⟨x,cv,rfl,rfl,hx,h⟩:=h
 obtain ⟨q,ys,p,rfl,e2,e3⟩:=zqh (h:=fun ys=>on2 ys fun y z=>zaq y && zaq z && z13 sc false [x] z && chk G N a sc (.e y)) hc
 obtain ⟨y,q',rfl,w1,u2,w3⟩:=z1q (g:=fun y=>chk G N a sc (.e y)) e3
 exact zli hG.ok (hG.hBlts .isinstance) (ze5 ((h G N sc y hG hN w3).mono fun v σ₁ k=>ze5 (z2m hG.ok hx (zi5 u2) (zo2 k)) (zcq rfl _) (zcd rfl)) (zcq w1 _) (zcd rfl)) .b (zi5 e2)
theorem z58 {a:T} {tp:Bool} {xs:List Str} {P:Bool->Led->Prop} (h:JE c d X (.isx a tp xs) ρ σ (fun v σ₁=>∃ b,v=.bool b/\P b σ₁)):JT c d X (.isx a tp xs) ρ σ P:=fun G N sc e hG hN hc=>by
 have h1:=h G N sc e hG hN hc
 obtain ⟨g,xs,ks,p,rfl,_⟩:=zbr hc
 exact zc1 h1 (fun z1 z2=>rfl)
theorem zt0 {s:Stmt} {f:Expr->Bool} (h:(onRaise s fun o c=>c.isNone && zcg o f)=true):∃ e p,s=.Raise (some e) none p/\f e=true:=by
 obtain ⟨o,cz,p,rfl,q⟩:=zoc h
 obtain ⟨e,rfl,k2⟩:=zbl (zaa q).2
 rw [Option.isNone_iff_eq_none.mp (zaa q).1]
 exact ⟨e,p,rfl,k2⟩
theorem zzq {x:Str} {es:T} {C:Addr} {bm:List Value} (hx:Exc c.k x C bm) (h:JL c d X es ρ σ (fun z1 σ₁=>X (.ref C) σ₁)):JS c d X (.raise x es) ρ σ K:=fun G N sc s hG hN hc=>by
 obtain ⟨e,p,rfl,k2⟩:=zt0 (f:=fun e=>ze0 e (fun y xs=>y == x && gi sc x && G.hd && decide (xs.length<=1000) && chk G N es sc (.l xs))) hc
 obtain ⟨y,q,xs,p',rfl,w⟩:=zfw k2
 obtain ⟨w,w3,w4⟩:=zef w
 obtain ⟨w,w2⟩:=zaa w
 rw [eq_of_beq (zaa w).1]
 exact zy0 hG.ok (hG.hd w2) hx (zi5 (zaa w).2) (of_decide_eq_true w3) (h G N sc xs hG hN w4)
def JH (c:Cx) (d:Nat) (hs:T) (C:Addr) (σ0 σ:Led) (K:Fl->Rho->Led->Prop) (X:XP):Prop:=
 ∀ G N sc ts,GlobOk c.k G->zil N->chk G N hs sc (.hl ts)=true->WH c d sc ts C σ0 σ (zkb N K) X
def z8h (c:Cx) (d:Nat) (X:XP) (body hs:T) (ρ:Rho) (σ:Led) (K:Fl->Rho->Led->Prop):Prop:=
 ∃ X':XP,JB c d X' body ρ σ K/\∀ cls σ',X' cls σ'->∃ C,cls=.ref C/\NoExc σ'/\JH c d hs C σ σ' K X
theorem z6d {body h₀ hs:T} (h:z8h c d X body (.cons h₀ hs) ρ σ K):JS c d X (.try_ body (.cons h₀ hs)) ρ σ K:=fun G N sc s hG hN hc=>by
 obtain ⟨b,ts,o,z,p,rfl,q⟩:=zt9 (show zxq s _=true from hc)
 obtain ⟨q,q4⟩:=zaa q
 obtain ⟨q,q3⟩:=zaa q
 obtain ⟨q1,q2⟩:=zaa q
 rw [za1 q1,za1 q2]
 obtain ⟨X',hb,hh⟩:=h
 obtain ⟨t,ts',rfl,_⟩:=zap (show za8 ts _=true from q4)
 refine z5g X' (hb G N sc b hG hN q3) fun cls σ' hx=>?_
 obtain ⟨C,e,hp,hw⟩:=hh cls σ' hx
 exact ⟨C,e,hp,hw G N sc _ hG hN q4⟩
end Mine
end
section
set_option genSizeOf false
set_option genInjectivity false
namespace Mine
open PySem
inductive Leaf (p:Prop):Prop
 | mk:p->Leaf p
inductive Side (q p:Prop):Prop
 | mk:q->p->Side q p
theorem Leaf.out {p:Prop}:Leaf p->p
 | .mk h=>h
def Br (b:Bool) (A B:Prop):Prop:=match b with
 | true=>A
 | false=>B
def Sw (b:Bool) (A B:Prop):Prop:=match b with
 | true=>A
 | false=>B
theorem zyt {b:Bool} {A B:Prop} (h1:b=true->A) (h2:b=false->B):Br b A B:=by
 cases b with
 | true=>exact h1 rfl
 | false=>exact h2 rfl
theorem brs:(∀ (p:Prop) [Decidable p],(decide p=true)=p)/\(∀ (p:Prop) [Decidable p],(decide p=false)=¬ p)/\(∀ {α:Type} [BEq α] [LawfulBEq α] (a b:α),((a == b)=true)=(a=b))/\
  (∀ {α:Type} [BEq α] [LawfulBEq α] (a b:α),((a == b)=false)=¬ a=b)/\(∀ {α:Type} [BEq α] [LawfulBEq α] (a b:α),((a != b)=true)=¬ a=b)/\
  (∀ b:Bool,((!b)=true)=(b=false))/\(∀ b:Bool,((!b)=false)=(b=true))/\(∀ {α β:Type} (l:List α) (f:α->β),(l.map f).length=l.length):=
 ⟨fun p=>decide_eq_true_eq,fun p=>propext decide_eq_false_iff_not,fun a b=>propext beq_iff_eq,fun a b=>propext beq_eq_false_iff_ne,fun a b=>propext bne_iff_ne,fun b=>Bool.not_eq_true' b,fun b=>Bool.not_eq_false' b,fun l f=>List.length_map f⟩
section
variable (c:Cx) (d:Nat) (X:XP)
def z4s (op:CmpOp) (k:Int->Int->Prop) (a b:V) (σ:Led) (P:V->Led->Prop):Prop:=match a with
 | .int x=>(match b with
  | .int y=>k x y
  | b=>Leaf (Op2 c d (compareOp op) a b σ P))
 | a=>Leaf (Op2 c d (compareOp op) a b σ P)
def eqC (op:CmpOp) (k₁:Int->Int->Prop) (k₂:Str->Str->Prop) (k₃:Bool->Bool->Prop) (a b:V) (σ:Led) (P:V->Led->Prop):Prop:=match a with
 | .int x=>(match b with
  | .int y=>k₁ x y
  | b=>Leaf (Op2 c d (compareOp op) a b σ P))
 | .str x=>(match b with
  | .str y=>k₂ x y
  | b=>Leaf (Op2 c d (compareOp op) a b σ P))
 | .bool x=>(match b with
  | .bool y=>k₃ x y
  | b=>Leaf (Op2 c d (compareOp op) a b σ P))
 | a=>Leaf (Op2 c d (compareOp op) a b σ P)
def inC (op:CmpOp) (k:Str->Str->Prop) (a b:V) (σ:Led) (P:V->Led->Prop):Prop:=match a with
 | .str y=>(match b with
  | .str x=>k x y
  | b=>Leaf (Op2 c d (compareOp op) a b σ P))
 | a=>Leaf (Op2 c d (compareOp op) a b σ P)
def opC (op:CmpOp) (a b:V) (σ:Led) (P:V->Led->Prop):Prop:=match op with
 | .Eq=>eqC c d .Eq (fun x y=>P (.bool (x == y)) σ) (fun x y=>P (.bool (x == y)) σ) (fun x y=>P (.bool (x == y)) σ) a b σ P
 | .NotEq=>eqC c d .NotEq (fun x y=>P (.bool (x != y)) σ) (fun x y=>P (.bool (x != y)) σ) (fun x y=>P (.bool (x != y)) σ) a b σ P
 | .Lt=>z4s c d .Lt (fun x y=>P (.bool (decide (x<y))) σ) a b σ P
 | .LtE=>z4s c d .LtE (fun x y=>P (.bool (decide (x<=y))) σ) a b σ P
 | .Gt=>z4s c d .Gt (fun x y=>P (.bool (decide (y<x))) σ) a b σ P
 | .GtE=>z4s c d .GtE (fun x y=>P (.bool (decide (y<=x))) σ) a b σ P
 | .In=>inC c d .In (fun x y=>P (.bool (Txt.contains x y)) σ) a b σ P
 | .NotIn=>inC c d .NotIn (fun x y=>P (.bool (!Txt.contains x y)) σ) a b σ P
 | op=>Leaf (Op2 c d (compareOp op) a b σ P)
def zw4 (op:Operator) (f:Int->Int->Prop) (a b:V) (σ:Led) (P:V->Led->Prop):Prop:=match a with
 | .int x=>(match b with
  | .int y=>f x y
  | b=>Leaf (Op2 c d (binaryOp op) a b σ P))
 | a=>Leaf (Op2 c d (binaryOp op) a b σ P)
noncomputable def small (x:Int):Bool:=decide (-9223372036854775808<x) && decide (x<9223372036854775808)
def opB (op:Operator) (a b:V) (σ:Led) (P:V->Led->Prop):Prop:=match op with
 | .Add=>zw4 c d .Add (fun x y=>P (.int (x+y)) σ) a b σ P
 | .Sub=>zw4 c d .Sub (fun x y=>P (.int (x - y)) σ) a b σ P
 | .Mult=>zw4 c d .Mult (fun x y=>Side (IntMulOk x y) (P (.int (x * y)) σ)) a b σ P
 | .Mod=>zw4 c d .Mod (fun x y=>Side (0<y) (P (.int (x % y)) σ)) a b σ P
 | .FloorDiv=>zw4 c d .FloorDiv (fun x y=>Side (0<y/\y<9223372036854775808) (P (.int (x / y)) σ)) a b σ P
 | op=>Leaf (Op2 c d (binaryOp op) a b σ P)
def z8u (op:Operator) (a:V) (k:Int) (σ:Led) (P:V->Led->Prop):Prop:=match op with
 | .Mult=>zw4 c d .Mult (fun x y=>Br (small k) (P (.int (x * k)) σ) (Side (IntMulOk x k) (P (.int (x * k)) σ))) a (.int k) σ P
 | .Mod=>zw4 c d .Mod (fun x y=>Br (decide (0<k)) (P (.int (x % k)) σ) (Side (0<k) (P (.int (x % k)) σ))) a (.int k) σ P
 | .FloorDiv=>zw4 c d .FloorDiv (fun x y=>Br (decide (0<k) && decide (k<9223372036854775808)) (P (.int (x / k)) σ) (Side (0<k/\k<9223372036854775808) (P (.int (x / k)) σ))) a (.int k) σ P
 | .Pow=>zw4 c d .Pow (fun x y=>Br (k == 12 && x == 10) (P (.int 1000000000000) σ) (Leaf (Op2 c d (binaryOp .Pow) (.int x) (.int k) σ P))) a (.int k) σ P
 | op=>opB c d op a (.int k) σ P
def opU (op:UnaryOp) (a:V) (σ:Led) (P:V->Led->Prop):Prop:=match op with
 | .USub=>(match a with
  | .int x=>P (.int (-x)) σ
  | a=>Leaf (Op1 c d (unaryOp .USub) a σ P))
 | .Not=>(match a with
  | .bool b=>P (.bool (!b)) σ
  | a=>Leaf (Op1 c d (unaryOp .Not) a σ P))
 | op=>Leaf (Op1 c d (unaryOp op) a σ P)
def z8t (v:V) (σ:Led) (P:Bool->Led->Prop):Prop:=∃ b,v=.bool b/\P b σ
def z8s (v:V) (σ:Led) (P:Option Int->Led->Prop):Prop:=∃ i,v=.int i/\P (some i) σ
def asB (v:V) (σ:Led) (P:Bool->Led->Prop):Prop:=match v with
 | .bool b=>P b σ
 | v=>Leaf (z8t v σ P)
def asI (v:V) (σ:Led) (P:Option Int->Led->Prop):Prop:=match v with
 | .int i=>P (some i) σ
 | v=>Leaf (z8s v σ P)
noncomputable def z7y:V->Option Bf
 | .bool _=>some .bool
 | .int _=>some .int
 | .str _=>some .str
 | .tup _=>some .tuple
 | .lst _=>some .list
 | _=>Option.none
noncomputable def z9t:Bf->Bf->Option Bool
 | .bool,.bool=>some true
 | .bool,.int=>some true
 | .bool,.str=>some false
 | .bool,.tuple=>some false
 | .bool,.list=>some false
 | .int,.int=>some true
 | .int,.bool=>some false
 | .int,.str=>some false
 | .int,.tuple=>some false
 | .int,.list=>some false
 | .str,.str=>some true
 | .str,.int=>some false
 | .str,.bool=>some false
 | .str,.tuple=>some false
 | .str,.list=>some false
 | .tuple,.tuple=>some true
 | .tuple,.int=>some false
 | .tuple,.bool=>some false
 | .tuple,.str=>some false
 | .tuple,.list=>some false
 | .list,.list=>some true
 | .list,.int=>some false
 | .list,.bool=>some false
 | .list,.str=>some false
 | .list,.tuple=>some false
 | _,_=>Option.none
def opI (f:Bf) (v:V) (σ:Led) (P:V->Led->Prop):Prop:=match z7y v with
 | some k=>(match z9t k f with
  | some b=>P (.bool b) σ
  | Option.none=>Leaf (CallS c d (.builtin "isinstance") [v,.raw f.val] σ P X))
 | Option.none=>Leaf (CallS c d (.builtin "isinstance") [v,.raw f.val] σ P X)
def z8g (vs:List V) (σ:Led) (P:V->Led->Prop):Prop:=∃ n:Nat,vs.length=n/\P (.int n) σ
def z5m (ws:List V) (σ:Led) (P:V->Led->Prop):Prop:=∃ ys:List Int,ws=ys.map .int/\P (.int ys.sum) σ
def z7f (ws:List V) (σ:Led) (P:V->Led->Prop):Prop:=∃ bs:List Bool,ws=bs.map .bool/\P (.bool (bs.all id)) σ
def z9v (v:V) (l u:Option Int) (σ:Led) (P:V->Led->Prop):Prop:=∃ w,zeh σ l u v w/\P w σ
def z1b (v:V) (σ:Led) (P:V->Led->Prop):Prop:=match v with
 | .lst vs=>Leaf (z8g vs σ P)
 | .tup vs=>P (.int vs.length) σ
 | .str x=>Side (x.length<=1000000) (P (.int x.length) σ)
 | v=>Leaf (CallS c d (.builtin "len") [v] σ P X)
def one (vs:List V) (f:V->Prop) (D:Prop):Prop:=match vs with
 | [v]=>f v
 | _=>D
def two (vs:List V) (f:V->V->Prop) (D:Prop):Prop:=match vs with
 | [a,b]=>f a b
 | _=>D
def zie (a:V) (f:Int->Prop) (D:Prop):Prop:=match a with
 | .int x=>f x
 | _=>D
def z5c (a:V) (f:List V->Prop) (D:Prop):Prop:=match a with
 | .lst x=>f x
 | _=>D
def opF (f:Bf) (vs:List V) (σ:Led) (P:V->Led->Prop):Prop:=match f with
 | .len=>one vs (fun v=>z1b c d X v σ P) (Leaf (CallS c d f.val vs σ P X))
 | .max=>two vs (fun a b=>zie a (fun x=>zie b (fun y=>P (.int (max x y)) σ) (Leaf (CallS c d f.val vs σ P X))) (Leaf (CallS c d f.val vs σ P X))) (Leaf (CallS c d f.val vs σ P X))
 | .min=>two vs (fun a b=>zie a (fun x=>zie b (fun y=>P (.int (min x y)) σ) (Leaf (CallS c d f.val vs σ P X))) (Leaf (CallS c d f.val vs σ P X))) (Leaf (CallS c d f.val vs σ P X))
 | .range=>one vs (fun a=>zie a (fun x=>P (.rng 0 x) σ) (Leaf (CallS c d f.val vs σ P X)))
   (two vs (fun a b=>zie a (fun x=>zie b (fun y=>P (.rng x y) σ) (Leaf (CallS c d f.val vs σ P X))) (Leaf (CallS c d f.val vs σ P X))) (Leaf (CallS c d f.val vs σ P X)))
 | .list=>one vs (fun a=>z5c a (fun ws=>P (.lst ws) σ) (Leaf (CallS c d f.val vs σ P X))) (Leaf (CallS c d f.val vs σ P X))
 | .sum=>one vs (fun a=>z5c a (fun ws=>Leaf (z5m ws σ P)) (Leaf (CallS c d f.val vs σ P X))) (Leaf (CallS c d f.val vs σ P X))
 | .all=>one vs (fun a=>z5c a (fun ws=>Leaf (z7f ws σ P)) (Leaf (CallS c d f.val vs σ P X))) (Leaf (CallS c d f.val vs σ P X))
 | f=>Leaf (CallS c d f.val vs σ P X)
def opK (v:V) (k:Int) (σ:Led) (P:V->Led->Prop):Prop:=match v with
 | .tup vs=>Br (decide (0<=k)) (match vs[k.toNat]? with
  | some w=>P w σ
  | Option.none=>False) (Leaf (zln c d v (.int k) σ P))
 | v=>Leaf (zln c d v (.int k) σ P)
def opS (v:V) (l u:Option Int) (σ:Led) (P:V->Led->Prop):Prop:=match v with
 | .lst vs=>P (.lst (slice l u vs)) σ
 | .str x=>Side (x.length<=sizeLine) (P (.str (zar l u x)) σ)
 | v=>Leaf (z9v v l u σ P)
end
noncomputable abbrev EX:=T->Rho->Led->(V->Led->Prop)->Prop
structure Exs where
 E:Cx->XP->EX
 B:Cx->XP->T->Rho->Led->(Bool->Led->Prop)->Prop
 A:Cx->XP->T->V->Rho->Led->(Rho->Led->Prop)->Prop
 S:Cx->XP->T->Rho->Led->(Fl->Rho->Led->Prop)->Prop
def z72 (v:V) (P:List V->Led->Prop) (vs:List V) (σ:Led):Prop:=P (v::vs) σ
def kL (R:Led->(List V->Led->Prop)->Prop) (P:List V->Led->Prop) (v:V) (σ:Led):Prop:=R σ (z72 v P)
noncomputable def exL (E:EX) (ρ:Rho):T->Led->(List V->Led->Prop)->Prop
 | .nil,σ,P=>P [] σ
 | .cons a r,σ,P=>E a ρ σ (kL (exL E ρ r) P)
 | _,_,_=>False
noncomputable def onC {α:Sort _} (t:T) (f:T->T->α) (z:α):α:=if h:t.ctorIdx=1 then T.cons.elim (motive:=fun z1=>α) t h f else z
set_option tactic.hygienic true
theorem zuh {t:T} {f:T->T->Bool} (h:onC t f false=true):∃ a r,t=.cons a r/\f a r=true:=by
 unfold onC at h
 split at h
 ·rename_i q;revert h;exact T.cons.elim (motive:=fun t=>∀ h:t.ctorIdx=1,T.cons.elim (motive:=fun z1=>Bool) t h f=true->∃ a r,t=.cons a r/\f a r=true) t q (fun a r z1 hk=>⟨a,r,rfl,hk⟩) q
 ·cases h
def onI (t:T) (f:Int->Prop) (z:Prop):Prop:=if h:t.ctorIdx=2 then T.int.elim (motive:=fun z1=>Prop) t h f else z
theorem zud {t:T} {f:Int->Prop} {z:Prop} (h:onI t f z):(∃ k,t=.int k/\f k)\/z:=by
 unfold onI at h
 split at h
 ·rename_i q;revert h;exact T.int.elim (motive:=fun t=>∀ h:t.ctorIdx=2,T.int.elim (motive:=fun z1=>Prop) t h f->(∃ k,t=.int k/\f k)\/z) t q (fun k z1 hk=>.inl ⟨k,rfl,hk⟩) q
 ·exact .inr h
def zqo (P:Bool->Led->Prop) (v:V) (σ:Led):Prop:=asB v σ P
def z4r (P:Option Int->Led->Prop) (v:V) (σ:Led):Prop:=asI v σ P
def z74 {α:Type} (z:α) (R:Led->(α->Led->Prop)->Prop) (P:α->Led->Prop) (b:Bool) (σ:Led):Prop:=Br b (R σ P) (P z σ)
def kOr {α:Type} (z:α) (R:Led->(α->Led->Prop)->Prop) (P:α->Led->Prop) (b:Bool) (σ:Led):Prop:=Br b (P z σ) (R σ P)
noncomputable def zsg (op:BoolOp):Bool:=op.ctorIdx == 0
noncomputable def z32 (E:EX) (ρ:Rho) (op:BoolOp):T->Led->(V->Led->Prop)->Prop
 | .cons a r,σ,P=>if r.ctorIdx=0 then E a ρ σ P else onC r (fun z1 z2=>Sw (zsg op) (E a ρ σ (zqo (z74 (.bool false) (z32 E ρ op r) P))) (E a ρ σ (zqo (kOr (.bool true) (z32 E ρ op r) P)))) False
 | _,_,_=>False
noncomputable def z7l (B:T->Rho->Led->(Bool->Led->Prop)->Prop) (ρ:Rho) (op:BoolOp):T->Led->(Bool->Led->Prop)->Prop
 | .nil,σ,P=>P (zsg op) σ
 | .cons a r,σ,P=>Sw (zsg op) (B a ρ σ (z74 false (z7l B ρ op r) P)) (B a ρ σ (kOr true (z7l B ρ op r) P))
 | _,_,_=>False
noncomputable def exO (E:EX) (ρ:Rho):T->Led->(Option Int->Led->Prop)->Prop
 | .nil,σ,P=>P Option.none σ
 | .int i,σ,P=>P (some i) σ
 | .var i,σ,P=>E (.var i) ρ σ (z4r P)
 | .bin o a b,σ,P=>E (.bin o a b) ρ σ (z4r P)
 | .un o a,σ,P=>E (.un o a) ρ σ (z4r P)
 | .call f a,σ,P=>E (.call f a) ρ σ (z4r P)
 | .blt f a,σ,P=>E (.blt f a) ρ σ (z4r P)
 | _,_,_=>False
def z8f (c:Cx) (P:V->Led->Prop) (vs:List V) (σ:Led):Prop:=∀ a,a∉zab σ->a∉c.F->P (.ref a) ((a,.list vs)::σ)
def DictAt (c:Cx) (P:V->Led->Prop) (t:T) (σ:Led):Prop:=∀ r,r∉zab σ->r∉c.F->P (.ref r) ((r,zyn t)::σ)
def z8q (c:Cx) (d:Nat) (X:XP) (q:T) (ρ:Rho) (σ:Led) (P:V->Led->Prop):Prop:=∃ v,(∀ Q:V->Led->Prop,Q v σ->JE c d X q ρ σ Q)/\P v σ
def z66 (c:Cx) (d:Nat) (X:XP) (q:T) (ρ:Rho) (σ:Led) (P:Bool->Led->Prop):Prop:=∃ b,(∀ Q:Bool->Led->Prop,Q b σ->JT c d X q ρ σ Q)/\P b σ
def z67 (c:Cx) (d:Nat) (ns:List Nat) (hb:Bool) (cond elt:T) (ρ:Rho) (Kf:List V->Led->Prop) (lv:V) (σ:Led):Prop:=∃ vs F,(∀ b∈F,b∈zab σ)/\zc6 (c.pro F) σ lv vs/\∀ D,JComp ((c.pro F).hide D) d ns hb cond elt ρ Kf vs [] σ
def z53 (c:Cx) (d:Nat) (t body:T) (K:Fl->Rho->Led->Prop) (ρ:Rho) (lv:V) (σ:Led):Prop:=∃ vs F,(∀ b∈F,b∈zab σ)/\zc6 (c.pro F) σ lv vs/\JLoop (c.pro F) d t body K vs ρ σ
def kMc (c:Cx) (d:Nat) (X:XP) (f:Value) (ov:V) (P:V->Led->Prop) (vs:List V) (σ:Led):Prop:=CallS c d f (ov::vs) σ P X
def z51 (c:Cx) (d:Nat) (X:XP) (y:Str) (es:T) (ρ:Rho) (P:V->Led->Prop) (ov:V) (σ:Led):Prop:=∃ T id,zzp c σ ov y T id/\JL c d X es ρ σ (kMc c d X (.builtin id) ov P)
def z25 (c:Cx) (d:Nat) (X:XP) (y:Str) (es:T) (ρ:Rho) (P:V->Led->Prop) (ov:V) (σ:Led):Prop:=∃ f,zwp c σ ov y f/\JL c d X es ρ σ (kMc c d X f ov P)
def zpn (c:Cx) (y:Str) (P:V->Led->Prop) (ov:V) (σ:Led):Prop:=∃ v,Fld c σ ov y v/\P v σ
def z9q (c:Cx) (y:Str) (P:V->Led->Prop) (ov:V) (σ:Led):Prop:=Leaf (zpn c y P ov σ)
def z70 (c:Cx) (d:Nat) (X:XP) (y:Str) (es:T) (ρ:Rho) (P:V->Led->Prop) (ov:V) (σ:Led):Prop:=Leaf (z51 c d X y es ρ P ov σ)
def z4p (c:Cx) (d:Nat) (X:XP) (y:Str) (es:T) (ρ:Rho) (P:V->Led->Prop) (ov:V) (σ:Led):Prop:=Leaf (z25 c d X y es ρ P ov σ)
def z4q (c:Cx) (d:Nat) (ns:List Nat) (hb:Bool) (cond elt:T) (ρ:Rho) (Kf:List V->Led->Prop) (lv:V) (σ:Led):Prop:=Leaf (z67 c d ns hb cond elt ρ Kf lv σ)
def z9p (c:Cx) (d:Nat) (t body:T) (K:Fl->Rho->Led->Prop) (ρ:Rho) (lv:V) (σ:Led):Prop:=Leaf (z53 c d t body K ρ lv σ)
def kBk (c:Cx) (d:Nat) (op:Operator) (k:Int) (P:V->Led->Prop) (u:V) (σ:Led):Prop:=z8u c d op u k σ P
def kB2 (c:Cx) (d:Nat) (op:Operator) (u:V) (P:V->Led->Prop) (v:V) (σ:Led):Prop:=opB c d op u v σ P
def kB1 (x:Exs) (c:Cx) (d:Nat) (X:XP) (op:Operator) (b:T) (ρ:Rho) (P:V->Led->Prop) (u:V) (σ:Led):Prop:=x.E c X b ρ σ (kB2 c d op u P)
def kUn (c:Cx) (d:Nat) (op:UnaryOp) (P:V->Led->Prop) (u:V) (σ:Led):Prop:=opU c d op u σ P
def kC2 (c:Cx) (d:Nat) (op:CmpOp) (u:V) (P:V->Led->Prop) (v:V) (σ:Led):Prop:=opC c d op u v σ P
def kC1 (x:Exs) (c:Cx) (d:Nat) (X:XP) (op:CmpOp) (b:T) (ρ:Rho) (P:V->Led->Prop) (u:V) (σ:Led):Prop:=x.E c X b ρ σ (kC2 c d op u P)
def kD4 (x:Exs) (c:Cx) (d:Nat) (X:XP) (v:V) (o:CmpOp) (b:T) (ρ:Rho) (P:V->Led->Prop) (t:Bool) (σ:Led):Prop:=Br t (x.E c X b ρ σ (kC2 c d o v P)) (P (.bool false) σ)
def kD2 (x:Exs) (c:Cx) (d:Nat) (X:XP) (o₁ o₂:CmpOp) (b:T) (ρ:Rho) (P:V->Led->Prop) (u:V) (v:V) (σ:Led):Prop:=opC c d o₁ u v σ (zqo (kD4 x c d X v o₂ b ρ P))
def kD1 (x:Exs) (c:Cx) (d:Nat) (X:XP) (o₁:CmpOp) (a:T) (o₂:CmpOp) (b:T) (ρ:Rho) (P:V->Led->Prop) (u:V) (σ:Led):Prop:=x.E c X a ρ σ (kD2 x c d X o₁ o₂ b ρ P u)
def kIf (x:Exs) (c:Cx) (X:XP) (a b:T) (ρ:Rho) (P:V->Led->Prop) (k:Bool) (σ:Led):Prop:=Br k (x.E c X a ρ σ P) (x.E c X b ρ σ P)
def z9e (P:V->Led->Prop) (vs:List V) (σ:Led):Prop:=P (.tup vs) σ
def z9j (P:V->Led->Prop) (vs:List V) (σ:Led):Prop:=P (.lst vs) σ
def z9k (c:Cx) (P:V->Led->Prop) (vs:List V) (σ:Led):Prop:=Leaf (z8f c P vs σ)
def z73 (c:Cx) (d:Nat) (X:XP) (f:Str) (P:V->Led->Prop) (vs:List V) (σ:Led):Prop:=Leaf (CallN c d f vs σ P X)
def z9s (c:Cx) (d:Nat) (X:XP) (f:Bf) (P:V->Led->Prop) (vs:List V) (σ:Led):Prop:=opF c d X f vs σ P
def z9n (c:Cx) (d:Nat) (X:XP) (f:Bf) (P:V->Led->Prop) (v:V) (σ:Led):Prop:=opI c d X f v σ P
def z9x (c:Cx) (d:Nat) (X:XP) (P:V->Led->Prop) (vs:List V) (σ:Led):Prop:=Leaf (CallS c d (.type "list") vs σ P X)
def kK (c:Cx) (d:Nat) (k:Int) (P:V->Led->Prop) (u:V) (σ:Led):Prop:=opK c d u k σ P
def kI2 (c:Cx) (d:Nat) (u:V) (P:V->Led->Prop) (v:V) (σ:Led):Prop:=Leaf (zln c d u v σ P)
def kI1 (x:Exs) (c:Cx) (d:Nat) (X:XP) (b:T) (ρ:Rho) (P:V->Led->Prop) (u:V) (σ:Led):Prop:=x.E c X b ρ σ (kI2 c d u P)
def kS3 (v:V) (l:Option Int) (P:V->Led->Prop) (u:Option Int) (σ:Led):Prop:=opS v l u σ P
def kS2 (x:Exs) (c:Cx) (X:XP) (hi:T) (ρ:Rho) (v:V) (P:V->Led->Prop) (l:Option Int) (σ:Led):Prop:=exO (x.E c X) ρ hi σ (kS3 v l P)
def kS1 (x:Exs) (c:Cx) (X:XP) (lo hi:T) (ρ:Rho) (P:V->Led->Prop) (v:V) (σ:Led):Prop:=exO (x.E c X) ρ lo σ (kS2 x c X hi ρ v P)
def z9i (P:Bool->Led->Prop) (b:Bool) (σ:Led):Prop:=P (!b) σ
def z04 (d:Nat) (x:Exs) (c:Cx) (X:XP) (t:T) (ρ:Rho) (σ:Led) (P:V->Led->Prop):Prop:=match t with
 | .int i=>P (.int i) σ
 | .str y=>P (.str y) σ
 | .bool b=>P (.bool b) σ
 | .none=>P .none σ
 | .var i=>(match ρ.lookup i with
  | some v=>P v σ
  | Option.none=>False)
 | .bin op a b=>onI b (fun k=>x.E c X a ρ σ (kBk c d op k P)) (x.E c X a ρ σ (kB1 x c d X op b ρ P))
 | .un op a=>x.E c X a ρ σ (kUn c d op P)
 | .cmp op a b=>x.E c X a ρ σ (kC1 x c d X op b ρ P)
 | .cmp2 a o₁ b o₂ b'=>x.E c X a ρ σ (kD1 x c d X o₁ b o₂ b' ρ P)
 | .bo op es=>z32 (x.E c X) ρ op es σ P
 | .ife t a b=>x.B c X t ρ σ (kIf x c X a b ρ P)
 | .tup es=>exL (x.E c X) ρ es σ (z9e P)
 | .lst loc es=>Sw loc (exL (x.E c X) ρ es σ (z9k c P)) (exL (x.E c X) ρ es σ (z9j P))
 | .call f es=>exL (x.E c X) ρ es σ (z73 c d X f P)
 | .blt f es=>exL (x.E c X) ρ es σ (z9s c d X f P)
 | .isi a f=>x.E c X a ρ σ (z9n c d X f P)
 | .isx a tp xs=>Leaf (zzy c d X a tp xs ρ σ P)
 | .meth o y es=>x.E c X o ρ σ (z70 c d X y es ρ P)
 | .methI o y es=>x.E c X o ρ σ (z4p c d X y es ρ P)
 | .attr o y=>x.E c X o ρ σ (z9q c y P)
 | .item a b=>onI b (fun k=>x.E c X a ρ σ (kK c d k P)) (x.E c X a ρ σ (kI1 x c d X b ρ P))
 | .slice a lo hi=>x.E c X a ρ σ (kS1 x c X lo hi ρ P)
 | .dict a _=>Leaf (DictAt c P a σ)
 | .dictL xs es=>Leaf (JD c d X xs es ρ σ P)
 | .cut q=>Leaf (z8q c d X q ρ σ P)
 | .comp loc hb elt ns it cond=>x.E c X it ρ σ (z4q c d ns hb cond elt ρ (zss c.F loc P))
 | _=>False
def z4a (d:Nat) (x:Exs) (c:Cx) (X:XP) (t:T) (ρ:Rho) (σ:Led) (P:Bool->Led->Prop):Prop:=match t with
 | .un .Not a=>x.B c X a ρ σ (z9i P)
 | .bo op es=>z7l (x.B c X) ρ op es σ P
 | .cmp op a b=>x.E c X a ρ σ (kC1 x c d X op b ρ (zqo P))
 | .cmp2 a o₁ b o₂ b'=>x.E c X a ρ σ (kD1 x c d X o₁ b o₂ b' ρ (zqo P))
 | .var i=>x.E c X (.var i) ρ σ (zqo P)
 | .cut q=>Leaf (z66 c d X q ρ σ P)
 | .call f a=>x.E c X (.call f a) ρ σ (zqo P)
 | .blt f a=>x.E c X (.blt f a) ρ σ (zqo P)
 | .isi a f=>x.E c X (.isi a f) ρ σ (zqo P)
 | .isx a tp xs=>x.E c X (.isx a tp xs) ρ σ (zqo P)
 | .meth o y a=>x.E c X (.meth o y a) ρ σ (zqo P)
 | .item a b=>x.E c X (.item a b) ρ σ (zqo P)
 | _=>False
noncomputable def z01:List V->T->Bool
 | [],t=>t.ctorIdx == 0
 | _::vs,t=>onC t (fun z1 r=>z01 vs r) false
def kAs (R:Rho->Led->(Rho->Led->Prop)->Prop) (K:Rho->Led->Prop) (ρ:Rho) (σ:Led):Prop:=R ρ σ K
noncomputable def z44 (A:T->V->Rho->Led->(Rho->Led->Prop)->Prop):List V->T->Rho->Led->(Rho->Led->Prop)->Prop
 | [],_,ρ,σ,K=>K ρ σ
 | v::vs,t,ρ,σ,K=>onC t (fun a r=>A a v ρ σ (kAs (z44 A vs r) K)) False
def kSA (c:Cx) (d:Nat) (y:Str) (v:V) (K:Led->Prop) (ov:V) (σ:Led):Prop:=Leaf (zv8 c d ov y v σ K)
def z9f (c:Cx) (d:Nat) (ov v:V) (K:Led->Prop) (iv:V) (σ:Led):Prop:=Leaf (zei c d ov iv v σ K)
def z9g (x:Exs) (c:Cx) (d:Nat) (X:XP) (b:T) (v:V) (ρ:Rho) (K:Led->Prop) (ov:V) (σ:Led):Prop:=x.E c X b ρ σ (z9f c d ov v K)
def z4b (d:Nat) (x:Exs) (c:Cx) (X:XP) (t:T) (v:V) (ρ:Rho) (σ:Led) (K:Rho->Led->Prop):Prop:=match t with
 | .var i=>K ((i,v)::ρ) σ
 | .tup ts=>(match v with
  | .tup vs=>Sw (z01 vs ts) (z44 (x.A c X) vs ts ρ σ K) False
  | _=>False)
 | .attr a y=>x.E c X a ρ σ (kSA c d y v (K ρ))
 | .item a b=>x.E c X a ρ σ (z9g x c d X b v ρ (K ρ))
 | _=>False
def z9h (K:Fl->Rho->Led->Prop) (ρ:Rho) (v:V) (σ:Led):Prop:=K (.ret v) ρ σ
def z9r (K:Fl->Rho->Led->Prop) (ρ:Rho) (v:V) (σ:Led):Prop:=K .next ρ σ
def z8z (K:Fl->Rho->Led->Prop) (i:Nat) (ρ:Rho) (v:V) (σ:Led):Prop:=K .next ((i,v)::ρ) σ
def z7z (x:Exs) (c:Cx) (X:XP) (t:T) (ρ:Rho) (K:Fl->Rho->Led->Prop) (v:V) (σ:Led):Prop:=x.A c X t v ρ σ (K .next)
def z9m (x:Exs) (c:Cx) (X:XP) (a b:T) (ρ:Rho) (K:Fl->Rho->Led->Prop) (k:Bool) (σ:Led):Prop:=Br k (x.S c X a ρ σ K) (x.S c X b ρ σ K)
def z22 (c:Cx) (d:Nat) (X:XP) (x:Str) (es:T) (ρ:Rho) (σ:Led):Prop:=∃ C bm,Exc c.k x C bm/\JL c d X es ρ σ (fun z1 σ₁=>X (.ref C) σ₁)
def zto (d:Nat) (x:Exs) (c:Cx) (X:XP) (s:T) (ρ:Rho) (σ:Led) (K:Fl->Rho->Led->Prop):Prop:=match s with
 | .ret e=>x.E c X e ρ σ (z9h K ρ)
 | .ret0=>K (.ret .none) ρ σ
 | .pass=>K .next ρ σ
 | .brk=>K .brk ρ σ
 | .cont=>K .cont ρ σ
 | .expr e=>x.E c X e ρ σ (z9r K ρ)
 | .asgn t e=>(match t with
  | .var i=>x.E c X e ρ σ (z8z K i ρ)
  | .item a b=>x.E c X e ρ σ (z7z x c X (.item a b) ρ K)
  | .attr a y=>x.E c X e ρ σ (z7z x c X (.attr a y) ρ K)
  | .tup ts=>(match e with
   | .item a b=>x.E c X (.item a b) ρ σ (z7z x c X (.tup ts) ρ K)
   | _=>False)
  | _=>False)
 | .asgnC i loc hb elt ns it cond=>x.E c X it ρ σ (z4q c d ns hb cond elt ρ (zss c.F loc (z8z K i ρ)))
 | .ite t a b=>x.B c X t ρ σ (z9m x c X a b ρ K)
 | .for_ t it body=>x.E c X it ρ σ (z9p c d t body K ρ)
 | .raise x es=>Leaf (z22 c d X x es ρ σ)
 | .try_ body hs=>onC hs (fun h₀ r=>Leaf (z8h c d X body (.cons h₀ r) ρ σ K)) False
 | _=>False
noncomputable def zmu:T->Bool
 | .for_ _ _ _=>true
 | .try_ _ _=>true
 | .ite t a b=>zmu a || (zmu b || t.ctorIdx == (T.cut .nil).ctorIdx)
 | .cons a r=>zmu a || zmu r
 | _=>false
def kNx (x:Exs) (c:Cx) (X:XP) (r:T) (K:Fl->Rho->Led->Prop) (ρ:Rho) (σ:Led):Prop:=x.S c X r ρ σ K
def z39 (d:Nat) (x:Exs) (c:Cx) (X:XP) (t:T) (ρ:Rho) (σ:Led) (K:Fl->Rho->Led->Prop):Prop:=match t with
 | .nil=>K .next ρ σ
 | .cons s r=>Sw (zmu s) (zto d x c X s ρ σ (ztc K (kJB c d X r K))) (zto d x c X s ρ σ (ztc K (kNx x c X r K)))
 | _=>False
noncomputable def exZ:Exs:=⟨fun z1 z2 z3 z4 z5 z6=>False,fun z1 z2 z3 z4 z5 z6=>False,fun z1 z2 z3 z4 z5 z6 z7=>False,fun z1 z2 z3 z4 z5 z6=>False⟩
noncomputable def exS (d:Nat) (x:Exs):Exs:=⟨z04 d x,z4a d x,z4b d x,z39 d x⟩
noncomputable def ex (d:Nat):Nat->Exs
 | 0=>exZ
 | n+1=>exS d (ex d n)
end Mine
end
section
namespace Mine
open PySem
variable {c:Cx} {d:Nat} {σ:Led} {P P':V->Led->Prop} {X:XP} {ρ:Rho} {K K':Fl->Rho->Led->Prop}
theorem zg2 {op:CmpOp} {k:Int->Int->Prop} {a b:V} (hr:∀ x y,k x y->Op2 c d (compareOp op) (.int x) (.int y) σ P) (h:z4s c d op k a b σ P):Op2 c d (compareOp op) a b σ P:=by
 cases a with
 | int x=>cases b with
  | int y=>exact hr x y h
  | _=>exact Leaf.out h
 | _=>exact Leaf.out h
theorem zvq {op:CmpOp} {k₁:Int->Int->Prop} {k₂:Str->Str->Prop} {k₃:Bool->Bool->Prop} {a b:V} (h1:∀ x y:Int,k₁ x y->Op2 c d (compareOp op) (.int x) (.int y) σ P) (h2:∀ x y:Str,k₂ x y->Op2 c d (compareOp op) (.str x) (.str y) σ P)
  (h3:∀ x y:Bool,k₃ x y->Op2 c d (compareOp op) (.bool x) (.bool y) σ P) (h:eqC c d op k₁ k₂ k₃ a b σ P):Op2 c d (compareOp op) a b σ P:=by
 cases a with
 | int x=>cases b with
  | int y=>exact h1 x y h
  | _=>exact Leaf.out h
 | str x=>cases b with
  | str y=>exact h2 x y h
  | _=>exact Leaf.out h
 | bool x=>cases b with
  | bool y=>exact h3 x y h
  | _=>exact Leaf.out h
 | _=>exact Leaf.out h
theorem zvc {op:CmpOp} {k:Str->Str->Prop} {a b:V} (hr:∀ x y:Str,k x y->Op2 c d (compareOp op) (.str y) (.str x) σ P) (h:inC c d op k a b σ P):Op2 c d (compareOp op) a b σ P:=by
 cases a with
 | str x=>cases b with
  | str y=>exact hr y x h
  | _=>exact Leaf.out h
 | _=>exact Leaf.out h
theorem zfq {op:CmpOp} {a b:V} (h:opC c d op a b σ P):Op2 c d (compareOp op) a b σ P:=by
 cases op with
 | Eq=>exact zvq (k₁:=fun x y=>P (.bool (x == y)) σ) (k₂:=fun x y=>P (.bool (x == y)) σ) (k₃:=fun x y=>P (.bool (x == y)) σ) (fun z1 z2 h=>z7d h) (fun z1 z2 h=>zsx h) (fun z1 z2 h=>zpq h) h
 | NotEq=>exact zvq (k₁:=fun x y=>P (.bool (x != y)) σ) (k₂:=fun x y=>P (.bool (x != y)) σ) (k₃:=fun x y=>P (.bool (x != y)) σ) (fun z1 z2 h=>z68 h) (fun z1 z2 h=>zsv h) (fun z1 z2 h=>zpo h) h
 | Lt=>exact zg2 (k:=fun x y=>P (.bool (decide (x<y))) σ) (fun z1 z2 h=>z69 h) h
 | LtE=>exact zg2 (k:=fun x y=>P (.bool (decide (x<=y))) σ) (fun z1 z2 h=>z7a h) h
 | Gt=>exact zg2 (k:=fun x y=>P (.bool (decide (y<x))) σ) (fun z1 z2 h=>z7b h) h
 | GtE=>exact zg2 (k:=fun x y=>P (.bool (decide (y<=x))) σ) (fun z1 z2 h=>z7c h) h
 | In=>exact zvc (k:=fun x y=>P (.bool (Txt.contains x y)) σ) (fun z1 z2 h=>zsw h) h
 | NotIn=>exact zvc (k:=fun x y=>P (.bool (!Txt.contains x y)) σ) (fun z1 z2 h=>zlu h) h
 | Is=>exact Leaf.out h
 | IsNot=>exact Leaf.out h
theorem zb8 {op:Operator} {f:Int->Int->Prop} {a b:V} (hr:∀ x y,b=.int y->f x y->Op2 c d (binaryOp op) (.int x) (.int y) σ P) (h:zw4 c d op f a b σ P):Op2 c d (binaryOp op) a b σ P:=by
 cases a with
 | int x=>cases b with
  | int y=>exact hr x y rfl h
  | _=>exact Leaf.out h
 | _=>exact Leaf.out h
theorem zt8 {op:Operator} {a b:V} (h:opB c d op a b σ P):Op2 c d (binaryOp op) a b σ P:=by
 cases op with
 | Add=>exact zb8 (f:=fun x y=>P (.int (x+y)) σ) (fun z1 z2 z3 h=>z50 h) h
 | Sub=>exact zb8 (f:=fun x y=>P (.int (x - y)) σ) (fun z1 z2 z3 h=>z5v h) h
 | Mult=>exact zb8 (fun _ _ _ ⟨h1,h2⟩=>zwn h1 h2) h
 | Mod=>exact zb8 (fun _ _ _ ⟨h1,h2⟩=>zo8 h1 h2) h
 | FloorDiv=>exact zb8 (fun _ _ _ ⟨h1,h2⟩=>zo9 h1.1 h1.2 h2) h
 | _=>exact Leaf.out h
theorem zxp {op:Operator} {a:V} {k:Int} (h:z8u c d op a k σ P):Op2 c d (binaryOp op) a (.int k) σ P:=by
 cases op with
 | Mult=>
  refine zb8 (f:=fun x y=>Br (small k) (P (.int (x * k)) σ) (Side (IntMulOk x k) (P (.int (x * k)) σ))) (fun x y e h=>?_) h
  cases e
  cases q:small k with
  | true=>
   rw [q] at h
   obtain ⟨q1,q2⟩:=zaa q
   exact zwn (zhs (of_decide_eq_true q1) (of_decide_eq_true q2)) h
  | false=>rw [q] at h;obtain ⟨h1,h2⟩:=(show Side _ _ from h);exact zwn h1 h2
 | Mod=>
  refine zb8 (f:=fun x y=>Br (decide (0<k)) (P (.int (x % k)) σ) (Side (0<k) (P (.int (x % k)) σ))) (fun x y e h=>?_) h
  cases e
  cases q:decide (0<k) with
  | true=>rw [q] at h;exact zo8 (of_decide_eq_true q) h
  | false=>rw [q] at h;obtain ⟨h1,h2⟩:=(show Side _ _ from h);exact zo8 h1 h2
 | FloorDiv=>
  refine zb8 (f:=fun x y=>Br (decide (0<k) && decide (k<9223372036854775808)) (P (.int (x / k)) σ) (Side (0<k/\k<9223372036854775808) (P (.int (x / k)) σ))) (fun x y e h=>?_) h
  cases e
  cases q:(decide (0<k) && decide (k<9223372036854775808)) with
  | true=>
   rw [q] at h
   obtain ⟨q1,q2⟩:=zaa q
   exact zo9 (of_decide_eq_true q1) (of_decide_eq_true q2) h
  | false=>rw [q] at h;obtain ⟨h1,h2⟩:=(show Side _ _ from h);exact zo9 h1.1 h1.2 h2
 | Pow=>
  refine zb8 (f:=fun x y=>Br (k == 12 && x == 10) (P (.int 1000000000000) σ) (Leaf (Op2 c d (binaryOp .Pow) (.int x) (.int k) σ P))) (fun x y e h=>?_) h
  cases e
  cases q:(k == 12 && x == 10) with
  | true=>
   rw [q] at h
   obtain ⟨q1,q2⟩:=zaa q
   rw [eq_of_beq q1,eq_of_beq q2];exact zzn h
  | false=>rw [q] at h;exact Leaf.out h
 | _=>exact zt8 h
theorem z09 {op:UnaryOp} {a:V} (h:opU c d op a σ P):Op1 c d (unaryOp op) a σ P:=by
 cases op with
 | USub=>cases a with
  | int x=>exact z5x h
  | _=>exact Leaf.out h
 | Not=>cases a with
  | bool x=>exact z5w h
  | _=>exact Leaf.out h
 | _=>exact Leaf.out h
theorem zbt {v:V} {P:Bool->Led->Prop} (h:asB v σ P):∃ b,v=.bool b/\P b σ:=by
 cases v with
 | bool b=>exact ⟨b,rfl,h⟩
 | _=>exact Leaf.out h
theorem zic {v:V} {P:Option Int->Led->Prop} (h:asI v σ P):∃ i,v=.int i/\P (some i) σ:=by
 cases v with
 | int b=>exact ⟨b,rfl,h⟩
 | _=>exact Leaf.out h
theorem z1d {f:Bf} {v:V} (h:opI c d X f v σ P):CallS c d (.builtin "isinstance") [v,.raw f.val] σ P X:=by
 cases v with
 | bool b=>cases f with
  | bool=>exact zlt h
  | int=>exact zno h
  | str=>exact znn h
  | tuple=>exact zjd h
  | list=>exact zls h
  | _=>exact Leaf.out h
 | int b=>cases f with
  | bool=>exact znl h
  | int=>exact zpm h
  | str=>exact zpl h
  | tuple=>exact zlr h
  | list=>exact znk h
  | _=>exact Leaf.out h
 | str b=>cases f with
  | bool=>exact znh h
  | int=>exact zpi h
  | str=>exact zph h
  | tuple=>exact zlp h
  | list=>exact zng h
  | _=>exact Leaf.out h
 | tup b=>cases f with
  | bool=>exact znf h
  | int=>exact zpg h
  | str=>exact zpf h
  | tuple=>exact zlo h
  | list=>exact zne h
  | _=>exact Leaf.out h
 | lst b=>cases f with
  | bool=>exact znj (.lst _) h
  | int=>exact zpk (.lst _) h
  | str=>exact zpj (.lst _) h
  | tuple=>exact zlq (.lst _) h
  | list=>exact zdn (.lst _) h
  | _=>exact Leaf.out h
 | _=>exact Leaf.out h
theorem zt7 {v:V} (h:z1b c d X v σ P):CallS c d (.builtin "len") [v] σ P X:=by
 cases v with
 | lst vs=>obtain ⟨n,rfl,h⟩:=Leaf.out h;exact zal (.lst _) h
 | tup vs=>exact zns h
 | str x=>obtain ⟨h1,h2⟩:=(show Side _ _ from h);exact znt h1 h2
 | _=>exact Leaf.out h
theorem zoa {vs:List V} {f:V->Prop} {D:Prop} (h:one vs f D):(∃ v,vs=[v]/\f v)\/D:=by
 cases vs with
 | nil=>exact .inr h
 | cons a r=>cases r with
  | nil=>exact .inl ⟨a,rfl,h⟩
  | cons _ _=>exact .inr h
theorem z00 {vs:List V} {f:V->V->Prop} {D:Prop} (h:two vs f D):(∃ a b,vs=[a,b]/\f a b)\/D:=by
 cases vs with
 | nil=>exact .inr h
 | cons a r=>cases r with
  | nil=>exact .inr h
  | cons b r=>cases r with
   | nil=>exact .inl ⟨a,b,rfl,h⟩
   | cons _ _=>exact .inr h
theorem zid {a:V} {f:Int->Prop} {D:Prop} (h:zie a f D):(∃ x,a=.int x/\f x)\/D:=by
 cases a with
 | int x=>exact .inl ⟨x,rfl,h⟩
 | _=>exact .inr h
theorem zyy {a:V} {f:List V->Prop} {D:Prop} (h:z5c a f D):(∃ x,a=.lst x/\f x)\/D:=by
 cases a with
 | lst x=>exact .inl ⟨x,rfl,h⟩
 | _=>exact .inr h
theorem zk4 {vs:List V} {f:Int->Int->Prop} {D:Prop} (h:two vs (fun a b=>zie a (fun x=>zie b (fun y=>f x y) D) D) D):(∃ x y,vs=[.int x,.int y]/\f x y)\/D:=by
 rcases z00 h with ⟨a,b,rfl,h⟩ | h
 ·rcases zid h with ⟨x,rfl,h⟩ | h
  ·rcases zid h with ⟨y,rfl,h⟩ | h
   ·exact .inl ⟨x,y,rfl,h⟩
   ·exact .inr h
  ·exact .inr h
 ·exact .inr h
theorem zol {vs:List V} {f:List V->Prop} {D:Prop} (h:one vs (fun a=>z5c a f D) D):(∃ x,vs=[.lst x]/\f x)\/D:=by
 rcases zoa h with ⟨a,rfl,h⟩ | h
 ·rcases zyy h with ⟨x,rfl,h⟩ | h
  ·exact .inl ⟨x,rfl,h⟩
  ·exact .inr h
 ·exact .inr h
theorem z1e (hh:c.k.hd=true) {f:Bf} {vs:List V} (h:opF c d X f vs σ P):CallS c d f.val vs σ P X:=by
 cases f with
 | len=>
  rcases zoa (f:=fun v=>z1b c d X v σ P) h with ⟨v,rfl,h⟩ | h
  ·exact zt7 h
  ·exact Leaf.out h
 | max=>
  rcases zk4 (f:=fun x y=>P (.int (max x y)) σ) h with ⟨x,y,rfl,h⟩ | h
  ·exact zz4 hh h
  ·exact Leaf.out h
 | min=>
  rcases zk4 (f:=fun x y=>P (.int (min x y)) σ) h with ⟨x,y,rfl,h⟩ | h
  ·exact zz3 hh h
  ·exact Leaf.out h
 | range=>
  rcases zoa (f:=fun a=>zie a (fun x=>P (.rng 0 x) σ) (Leaf (CallS c d Bf.range.val vs σ P X))) h with ⟨v,rfl,h⟩ | h
  ·rcases zid h with ⟨x,rfl,h⟩ | h
   ·exact zps h
   ·exact Leaf.out h
  ·rcases zk4 (f:=fun x y=>P (.rng x y) σ) h with ⟨x,y,rfl,h⟩ | h
   ·exact zpr h
   ·exact Leaf.out h
 | list=>
  rcases zol (f:=fun ws=>P (.lst ws) σ) h with ⟨x,rfl,h⟩ | h
  ·exact zwz (.lst _) h
  ·exact Leaf.out h
 | sum=>
  rcases zol (f:=fun ws=>Leaf (z5m ws σ P)) h with ⟨x,rfl,h⟩ | h
  ·obtain ⟨ys,rfl,w⟩:=Leaf.out h;exact zz1 hh (.lst _) w
  ·exact Leaf.out h
 | all=>
  rcases zol (f:=fun ws=>Leaf (z7f ws σ P)) h with ⟨x,rfl,h⟩ | h
  ·obtain ⟨ys,rfl,w⟩:=Leaf.out h;exact zz5 hh (.lst _) w
  ·exact Leaf.out h
 | _=>exact Leaf.out h
theorem zzw {vs:List V} {k:Int} {w:V} (h0:0<=k) (hw:vs[k.toNat]?=some w) (h:P w σ):zln c d (.tup vs) (.int k) σ P:=fun v i hi=>zzl h0 hw h (fun o x=>ze1 hi o x)
theorem zag {lv:V} {vs:List V} {k:Int} {w:V} (hl:IsLst σ lv vs) (h0:0<=k) (hw:vs[k.toNat]?=some w) (h:P w σ):zln c d lv (.int k) σ P:=fun v i hi=>z24 hl h0 hw h (fun o x=>ze1 hi o x)
theorem zlm {x:Str} {k:Int} {n:Nat} (h0:0<=k) (hk:x.cps[k.toNat]?=some n) (hn:k<2 ^ 62) (h:P (.str ⟨#[n]⟩) σ):zln c d (.str x) (.int k) σ P:=fun v i hi=>zzm h0 hk hn h (fun o x=>ze1 hi o x)
theorem z1c {v:V} {k:Int} (h:opK c d v k σ P):zln c d v (.int k) σ P:=by
 cases v with
 | tup vs=>
  unfold opK at h
  dsimp only at h
  cases q:decide (0<=k) with
  | true=>
   rw [q] at h
   replace h:(match vs[k.toNat]? with
    | some w=>P w σ
    | Option.none=>False):=h
   split at h
   ·exact zzw (of_decide_eq_true q) (by assumption) h
   ·exact h.elim
  | false=>rw [q] at h;exact Leaf.out h
 | _=>exact Leaf.out h
theorem z1a {v:V} {l u:Option Int} (h:opS v l u σ P):∃ w,zeh σ l u v w/\P w σ:=by
 cases v with
 | lst vs=>exact ⟨_,.lst (.lst _),h⟩
 | str x=>obtain ⟨h1,h2⟩:=(show Side _ _ from h);exact ⟨_,.str h1,h2⟩
 | _=>exact Leaf.out h
structure zwy (d:Nat) (x:Exs):Prop where
 E:∀ {c X t ρ σ P},x.E c X t ρ σ P->JE c d X t ρ σ P
 B:∀ {c X t ρ σ P},x.B c X t ρ σ P->JT c d X t ρ σ P
 A:∀ {c X t v ρ σ K},x.A c X t v ρ σ K->JA c d X t v ρ σ K
 S:∀ {c X t ρ σ K},x.S c X t ρ σ K->JB c d X t ρ σ K
theorem JL.mono {t:T} {P P':List V->Led->Prop} (h:JL c d X t ρ σ P) (k:∀ v σ',P v σ'->P' v σ'):JL c d X t ρ σ P':=fun G N sc e hG hN hc=>(h G N sc e hG hN hc).mono k
theorem JT.mono {t:T} {P P':Bool->Led->Prop} (h:JT c d X t ρ σ P) (k:∀ v σ',P v σ'->P' v σ'):JT c d X t ρ σ P':=fun G N sc e hG hN hc=>(h G N sc e hG hN hc).mono k
theorem JO.mono {t:T} {P P':Option Int->Led->Prop} (h:JO c d X t ρ σ P) (k:∀ v σ',P v σ'->P' v σ'):JO c d X t ρ σ P':=fun G N sc e hG hN hc=>(h G N sc e hG hN hc).mono k
variable {x:Exs} {t:T}
theorem zfy (ok:zwy d x):∀ (t:T) {σ:Led} {P:List V->Led->Prop},exL (x.E c X) ρ t σ P->JL c d X t ρ σ P:=fun t=>by
 induction t with
 | nil=>exact fun h=>z6o h
 | cons a r _ ih=>exact fun h=>z3g ((ok.E (show x.E c X a ρ _ _ from h)).mono fun v σ₁ q=>ih q)
 | _=>exact fun h=>h.elim
set_option tactic.hygienic true
theorem zug {t:T} {f:T->T->Prop} (h:onC t f False):∃ a r,t=.cons a r/\f a r:=by
 unfold onC at h
 split at h
 ·rename_i q;revert h;exact T.cons.elim (motive:=fun t=>∀ h:t.ctorIdx=1,T.cons.elim (motive:=fun z1=>Prop) t h f->∃ a r,t=.cons a r/\f a r) t q (fun a r z1 hk=>⟨a,r,rfl,hk⟩) q
 ·exact h.elim
theorem z0h {A B:Prop} (h:Sw (zsg .And) A B):A:=h
theorem z5b {A B:Prop} (h:Sw (zsg .Or) A B):B:=h
set_option tactic.hygienic false
theorem zyi (ok:zwy d x) {op:BoolOp}:∀ (t:T) {σ:Led} {P:V->Led->Prop},z32 (x.E c X) ρ op t σ P->JBo c d X op t ρ σ P:=fun t=>by
 induction t with
 | cons a r _ ih=>
  intro σ P h
  replace h:if r.ctorIdx=0 then x.E c X a ρ σ P else onC r (fun z1 z2=>Sw (zsg op) (x.E c X a ρ σ (zqo (z74 (.bool false) (z32 (x.E c X) ρ op r) P))) (x.E c X a ρ σ (zqo (kOr (.bool true) (z32 (x.E c X) ρ op r) P)))) False:=h
  by_cases q:r.ctorIdx=0
  ·rw [if_pos q] at h
   rw [T.nil.elim (motive:=fun r=>r=.nil) r q rfl]
   exact z3p (ok.E h)
  ·rw [if_neg q] at h
   obtain ⟨b,r',rfl,h⟩:=zug h
   cases op with
   | And=>
    refine z3q ((ok.E (z0h h)).mono fun v σ₁ q=>?_)
    obtain ⟨t,rfl,q⟩:=zbt q
    refine ⟨t,rfl,?_⟩
    cases t with
    | true=>exact ih q
    | false=>exact q
   | Or=>
    refine z6z ((ok.E (z5b h)).mono fun v σ₁ q=>?_)
    obtain ⟨t,rfl,q⟩:=zbt q
    refine ⟨t,rfl,?_⟩
    cases t with
    | true=>exact q
    | false=>exact ih q
 | _=>exact fun h=>h.elim
theorem zyh (ok:zwy d x) {op:BoolOp}:∀ (t:T) {σ:Led} {P:Bool->Led->Prop},z7l (x.B c X) ρ op t σ P->JTs c d X op t ρ σ P:=fun t=>by
 induction t with
 | nil=>
  intro σ P h
  cases op with
  | And=>exact zpd h
  | Or=>exact zst h
 | cons a r _ ih=>
  intro σ P h
  cases op with
  | And=>
   refine z26 ((ok.B (z0h h)).mono fun b σ₁ q=>?_)
   cases b with
   | true=>exact ih q
   | false=>exact q
  | Or=>
   refine z55 ((ok.B (z5b h)).mono fun b σ₁ q=>?_)
   cases b with
   | true=>exact q
   | false=>exact ih q
 | _=>exact fun h=>h.elim
theorem zvn (ok:zwy d x) {t:T} {P:Option Int->Led->Prop} (h:exO (x.E c X) ρ t σ P):JO c d X t ρ σ P:=by
 cases t with
 | nil=>exact z6k h
 | int i=>exact z6l (zrc ⟨i,rfl,h⟩)
 | var i=>exact z6j ((ok.E h).mono fun v σ₁ q=>zic q)
 | bin o a b=>exact z6n ((ok.E h).mono fun v σ₁ q=>zic q)
 | un o a=>exact z8j ((ok.E h).mono fun v σ₁ q=>zic q)
 | call f a=>exact z3f ((ok.E h).mono fun v σ₁ q=>zic q)
 | blt f a=>exact z6m ((ok.E h).mono fun v σ₁ q=>zic q)
 | _=>exact h.elim
theorem ztq (ok:zwy d x) {t:T} (h:z04 d x c X t ρ σ P):JE c d X t ρ σ P:=by
 cases t with
 | int i=>exact zrc h
 | str i=>exact z6q h
 | bool i=>exact z3n h
 | none=>exact z3h h
 | var i=>
  unfold z04 at h
  dsimp only at h
  split at h
  ·exact zwq (by assumption) h
  ·exact h.elim
 | bin op a b=>
  rcases zud (show onI b _ _ from h) with ⟨k,rfl,h⟩ | h
  ·exact z0s ((ok.E h).mono fun u σ₁ q=>zrc (zxp q))
  ·exact z0s ((ok.E h).mono fun u σ₁ q=>(ok.E q).mono fun v σ₂ q=>zt8 q)
 | un op a=>exact z8m ((ok.E h).mono fun u σ₁ q=>z09 q)
 | cmp op a b=>exact z6x ((ok.E h).mono fun u σ₁ q=>(ok.E q).mono fun v σ₂ q=>zfq q)
 | cmp2 a o₁ b o₂ b'=>
  refine z3l ((ok.E h).mono fun u σ₁ q=>(ok.E q).mono fun v σ₂ q=>(zfq q).mono fun w σ₃ q=>?_)
  obtain ⟨t,rfl,q⟩:=zbt q
  refine ⟨t,rfl,?_⟩
  cases t with
  | true=>exact (ok.E q).mono fun v' σ₅ q=>zfq q
  | false=>exact q
 | bo op es=>exact z8n (zyi ok es h)
 | ife t a b=>
  refine z6v ((ok.B h).mono fun k σ₁ q=>?_)
  cases k with
  | true=>exact ok.E q
  | false=>exact ok.E q
 | tup es=>exact z6p (zfy ok es h)
 | lst loc es=>
  cases loc with
  | false=>exact z6r (zfy ok es h)
  | true=>exact z6s ((zfy ok es h).mono fun vs σ₁ q=>Leaf.out q)
 | call f es=>exact z3m ((zfy ok es h).mono fun vs σ₁ q=>Leaf.out q)
 | blt f es=>exact z6y ((zfy ok es h).mono fun vs σ₁ q hh=>z1e hh q)
 | isi a f=>exact z6u ((ok.E h).mono fun u σ₁ q=>z1d q)
 | isx a tp xs=>exact z6t (Leaf.out h)
 | methI o y es=>exact zzt ((ok.E h).mono fun u σ₁ q=>Leaf.out q)
 | attr o y=>exact z3o ((ok.E h).mono fun u σ₁ q=>Leaf.out q)
 | meth o y es=>exact z3i ((ok.E h).mono fun u σ₁ q=>Leaf.out q)
 | item a b=>
  rcases zud (show onI b _ _ from h) with ⟨k,rfl,h⟩ | h
  ·exact zwr ((ok.E h).mono fun u σ₁ q=>zrc (z1c q))
  ·exact zwr ((ok.E h).mono fun u σ₁ q=>(ok.E q).mono fun v σ₂ q=>Leaf.out q)
 | slice a lo hi=>exact zzs ((ok.E h).mono fun v σ₁ q=>(zvn ok q).mono fun l σ₂ q=>(zvn ok q).mono fun u σ₃ q=>z1a q)
 | dict a b=>exact z3j (Leaf.out h)
 | dictL xs es=>exact (Leaf.out (show Leaf (JD c d X xs es ρ σ P) from h))
 | cut q=>obtain ⟨v,h1,h2⟩:=Leaf.out h;exact z6w h1 h2
 | comp loc hb elt ns it cond=>exact z3k ((ok.E h).mono fun lv σ₁ q=>Leaf.out q)
 | _=>exact h.elim
theorem ztr (ok:zwy d x) {t:T} {P:Bool->Led->Prop} (h:z4a d x c X t ρ σ P):JT c d X t ρ σ P:=by
 cases t with
 | un op a=>
  cases op with
  | Not=>exact z57 (ok.B h)
  | _=>exact h.elim
 | bo op es=>exact z8i (zyh ok es h)
 | cmp op a b=>exact z6b ((ok.E h).mono fun u σ₁ q=>(ok.E q).mono fun v σ₂ q=>(zfq q).mono fun w σ₃ q=>zbt q)
 | cmp2 a o₁ b o₂ b'=>
  refine z29 ((ok.E h).mono fun u σ₁ q=>(ok.E q).mono fun v σ₂ q=>(zfq q).mono fun w σ₃ q=>?_)
  obtain ⟨t,rfl,q⟩:=zbt q
  refine ⟨t,rfl,?_⟩
  cases t with
  | true=>exact (ok.E q).mono fun v' σ₅ q=>(zfq q).mono fun w σ₆ q=>zbt q
  | false=>exact q
 | cut q=>obtain ⟨v,h1,h2⟩:=Leaf.out h;exact z6a h1 h2
 | var i=>exact z56 ((ok.E h).mono fun v σ₁ q=>zbt q)
 | call f a=>exact z3a ((ok.E h).mono fun v σ₁ q=>zbt q)
 | blt f a=>exact z6c ((ok.E h).mono fun v σ₁ q=>zbt q)
 | isi a f=>exact z59 ((ok.E h).mono fun v σ₁ q=>zbt q)
 | isx a tp xs=>exact z58 ((ok.E h).mono fun v σ₁ q=>zbt q)
 | meth o y a=>exact z27 ((ok.E h).mono fun v σ₁ q=>zbt q)
 | item a b=>exact z28 ((ok.E h).mono fun v σ₁ q=>zbt q)
 | _=>exact h.elim
theorem ztb {G:Glob} {N:List Str} {sc:Scope}:∀ (vs:List V) (t:T) (es:List Expr),z01 vs t=true->chk G N t sc (.tl es)=true->es.length=vs.length
 | [],t,es,h,hc=>by
  rw [T.nil.elim (motive:=fun t=>t=.nil) t (eq_of_beq h) rfl] at hc
  rw [za1 (show on0 es=true from hc)];rfl
 | v::vs,t,es,h,hc=>by
  obtain ⟨a,r,rfl,h⟩:=zuh h
  obtain ⟨e,es',rfl,q⟩:=zap (show za8 es (fun e es=>zaq e && es.all zaq && chk G N a sc (.t e) && chk G N r sc (.tl es))=true from hc)
  rw [List.length_cons,List.length_cons,ztb vs r es' h (zaa q).2]
theorem zqr (ok:zwy d x):∀ (vs:List V) (t:T) {ρ:Rho} {σ:Led} {K:Rho->Led->Prop},z01 vs t=true->z44 (x.A c X) vs t ρ σ K->JAs c d X t vs ρ σ K
 | [],t,ρ,σ,K,ht,h=>by
  rw [T.nil.elim (motive:=fun t=>t=.nil) t (eq_of_beq ht) rfl]
  exact z3r h
 | v::vs,t,ρ,σ,K,ht,h=>by
  obtain ⟨a,r,rfl,ht⟩:=zuh ht
  exact zzv (fun G N sc es hc=>ztb vs r es ht hc) ((ok.A h).mono fun ρ₁ σ₁ q=>zqr ok vs r ht q)
theorem zts (ok:zwy d x) {t:T} {v:V} {K:Rho->Led->Prop} (h:z4b d x c X t v ρ σ K):JA c d X t v ρ σ K:=by
 cases t with
 | var i=>exact z0u h
 | tup ts=>
  cases v with
  | tup vs=>
   cases q:z01 vs ts with
   | true=>exact z60 (zqr ok vs ts q (by have h':Sw (z01 vs ts) (z44 (x.A c X) vs ts ρ σ K) False:=h;rw [q] at h';exact h'))
   | false=>exact (show False by have h':Sw (z01 vs ts) (z44 (x.A c X) vs ts ρ σ K) False:=h;rw [q] at h';exact h').elim
  | _=>exact h.elim
 | attr a y=>exact z3t ((ok.E h).mono fun ov σ₁ q=>Leaf.out q)
 | item a b=>exact z3s ((ok.E h).mono fun ov σ₁ q=>(ok.E q).mono fun iv σ₂ q=>Leaf.out q)
 | _=>exact h.elim
theorem zl9 (ok:zwy d x) {s:T} (h:zto d x c X s ρ σ K):JS c d X s ρ σ K:=by
 cases s with
 | ret e=>exact z6e (ok.E h)
 | ret0=>exact z3b h
 | pass=>exact z3c h
 | brk=>exact z6h h
 | cont=>exact z3e h
 | expr e=>exact z3d (ok.E h)
 | asgn t e=>
  cases t with
  | var i=>exact zlk zrn ((ok.E h).mono fun v σ₁ q=>z0u q)
  | attr a y=>exact zlk zl7 ((ok.E h).mono fun v σ₁ q=>ok.A q)
  | item a b=>exact zlk zn7 ((ok.E h).mono fun v σ₁ q=>ok.A q)
  | tup ts=>
   cases e with
   | item a b=>exact zlk zn6 ((ok.E h).mono fun v σ₁ q=>ok.A q)
   | _=>exact h.elim
  | _=>exact h.elim
 | asgnC i loc hb elt ns it cond=>exact zzr ((ok.E h).mono fun lv σ₁ q=>Leaf.out q)
 | ite t a b=>
  refine z6f ((ok.B h).mono fun k σ₁ q=>?_)
  cases k with
  | true=>exact ok.S q
  | false=>exact ok.S q
 | for_ t it body=>exact z6g ((ok.E h).mono fun lv σ₁ q=>Leaf.out q)
 | raise x es=>obtain ⟨C,bm,h1,h2⟩:=Leaf.out h;exact zzq h1 h2
 | try_ body hs=>
  obtain ⟨h₀,r,rfl,h⟩:=zug (show onC hs (fun h₀ r=>Leaf (z8h c d X body (.cons h₀ r) ρ σ K)) False from h)
  exact z6d (Leaf.out h)
 | _=>exact h.elim
theorem JS.mono {t:T} (h:JS c d X t ρ σ K) (k:∀ f ρ' σ',K f ρ' σ'->K' f ρ' σ'):JS c d X t ρ σ K':=fun G N sc e hG hN hc=>(h G N sc e hG hN hc).mono fun f m' σ' ⟨ρ',q1,q2⟩=>⟨ρ',q1,k _ _ _ q2⟩
theorem ztp (ok:zwy d x) {t:T} (h:z39 d x c X t ρ σ K):JB c d X t ρ σ K:=by
 cases t with
 | nil=>exact z0t h
 | cons s r=>
  cases hb:zmu s with
  | false=>
   replace h:Sw (zmu s) _ (zto d x c X s ρ σ (ztc K (kNx x c X r K))):=h
   rw [hb] at h
   refine zws ((zl9 ok h).mono fun f ρ₁ σ₁ q=>?_)
   cases f with
   | next=>exact ok.S q
   | brk=>exact q
   | cont=>exact q
   | ret v=>exact q
  | true=>
   replace h:Sw (zmu s) (zto d x c X s ρ σ (ztc K (kJB c d X r K))) _:=h
   rw [hb] at h
   exact zws (zl9 ok h)
 | _=>exact h.elim
theorem zi6 (d:Nat):∀ n,zwy d (ex d n)
 | 0=>⟨fun h=>h.elim,fun h=>h.elim,fun h=>h.elim,fun h=>h.elim⟩
 | n+1=>⟨fun h=>ztq (zi6 d n) h,fun h=>ztr (zi6 d n) h,fun h=>zts (zi6 d n) h,fun h=>ztp (zi6 d n) h⟩
theorem zc5 (h:(ex d 100).S c X t ρ σ K):JB c d X t ρ σ K:=(zi6 d 100).S h
theorem znb (h:(ex d 100).E c X t ρ σ P):JE c d X t ρ σ P:=(zi6 d 100).E h
theorem zf4 {P:Bool->Led->Prop} (h:(ex d 100).B c X t ρ σ P):JT c d X t ρ σ P:=(zi6 d 100).B h
theorem z61 {X':XP} {v:V} {t':T} (h:(ex d 100).A c X t v ρ σ (kNx (ex d 100) c X' t' K)):JA c d X t v ρ σ (kJB c d X' t' K):=((zi6 d 100).A h).mono fun z1 z2 q=>(zi6 d 100).S q
theorem z8k {P:List V->Led->Prop} (h:exL ((ex d 100).E c X) ρ t σ P):JL c d X t ρ σ P:=zfy (zi6 d 100) t h
end Mine
end
section
namespace Mine
open PySem
noncomputable def zbj:T:=(.cons (.ret (.bo .And (.cons (.isi (.var 0) .int) (.cons (.un .Not (.isi (.var 0) .bool)) .nil)))) .nil)
noncomputable def zr7:List Str:=["thing"]
noncomputable def zl2:T:=(.cmp .In (.var 1) (.str "abcdefghijklmnopqrstuvwxyz"))
noncomputable def ztd:T:=(.cons (.ite (.bo .Or (.cons (.un .Not (.isi (.var 0) .str)) (.cons (.un .Not (.cmp2 (.int 1) .LtE (.blt .len (.cons (.var 0) .nil)) .LtE (.int 12))) .nil))) (.cons (.ret (.bool false)) .nil) .nil) (.cons (.ret (.blt .all (.cons (.comp false false zl2 [1] (.var 0) .nil) .nil))) .nil))
noncomputable def zus:List Str:=["thing","sign"]
noncomputable def zxc:T:=(.cons (.ret (.bo .And (.cons (.call "is_whole" (.cons (.var 0) .nil)) (.cons (.cmp2 (.int 0) .LtE (.var 0) .LtE (.int 1000000000000)) .nil)))) .nil)
noncomputable def zx0:List Str:=["thing"]
noncomputable def zrl:T:=(.cons (.ret (.bo .And (.cons (.call "is_whole" (.cons (.var 0) .nil)) (.cons (.cmp2 (.int 1) .LtE (.var 0) .LtE (.int 1000000000000)) .nil)))) .nil)
noncomputable def zr8:List Str:=["thing"]
noncomputable def zxb:T:=(.cons (.ite (.bo .Or (.cons (.un .Not (.isi (.var 0) .tuple)) (.cons (.cmp .NotEq (.blt .len (.cons (.var 0) .nil)) (.int 3)) .nil))) (.cons (.ret (.bool false)) .nil) .nil) (.cons (.ret (.bo .And (.cons (.call "is_ware" (.cons (.item (.var 0) (.int 0)) .nil)) (.cons (.call "is_day" (.cons (.item (.var 0) (.int 1)) .nil)) (.cons (.call "is_count" (.cons (.item (.var 0) (.int 2)) .nil)) .nil))))) .nil))
noncomputable def zxz:List Str:=["thing"]
noncomputable def zte:T:=(.cons (.ite (.bo .Or (.cons (.un .Not (.isi (.var 0) .tuple)) (.cons (.cmp .NotEq (.blt .len (.cons (.var 0) .nil)) (.int 4)) .nil))) (.cons (.ret (.bool false)) .nil) .nil) (.cons (.ret (.bo .And (.cons (.call "is_ware" (.cons (.item (.var 0) (.int 0)) .nil)) (.cons (.call "is_day" (.cons (.item (.var 0) (.int 1)) .nil)) (.cons (.call "is_day" (.cons (.item (.var 0) (.int 2)) .nil)) (.cons (.call "is_count" (.cons (.item (.var 0) (.int 3)) .nil)) .nil)))))) .nil))
noncomputable def zut:List Str:=["thing"]
noncomputable def z37:T:=(.cons (.ret (.bin .Add (.item (.var 0) (.int 1)) (.item (.var 0) (.int 2)))) .nil)
noncomputable def z4l:List Str:=["line"]
noncomputable def z38:T:=(.cons (.ret (.bo .And (.cons (.cmp .Eq (.item (.var 0) (.int 0)) (.item (.var 1) (.int 0))) (.cons (.cmp .GtE (.item (.var 0) (.int 1)) (.call "need" (.cons (.var 1) .nil))) .nil)))) .nil)
noncomputable def z4m:List Str:=["lot","line"]
noncomputable def zir:T:=(.call "is_lot" (.cons (.var 2) .nil))
noncomputable def ziq:T:=(.call "is_line" (.cons (.var 3) .nil))
noncomputable def zn3:T:=(.cons (.ite (.bo .Or (.cons (.un .Not (.isi (.var 0) .list)) (.cons (.cmp .Gt (.blt .len (.cons (.var 0) .nil)) (.int 100)) (.cons (.un .Not (.blt .all (.cons (.comp false false zir [2] (.var 0) .nil) .nil))) .nil)))) (.cons (.raise "BadLot" (.cons (.str "no list of lots") .nil)) .nil) .nil) (.cons (.ite (.bo .Or (.cons (.un .Not (.isi (.var 1) .list)) (.cons (.cmp .Gt (.blt .len (.cons (.var 1) .nil)) (.int 100)) (.cons (.un .Not (.blt .all (.cons (.comp false false ziq [3] (.var 1) .nil) .nil))) .nil)))) (.cons (.raise "BadLine" (.cons (.str "no list of lines") .nil)) .nil) .nil) .nil))
noncomputable def zog:List Str:=["lots","lines","lot","line"]
noncomputable def zth:T:=(.item (.var 2) (.int 2))
noncomputable def ztg:T:=(.tup (.cons (.item (.item (.var 0) (.var 4)) (.int 1)) (.cons (.var 4) .nil)))
noncomputable def ztf:T:=(.tup (.cons (.un .USub (.call "need" (.cons (.item (.var 1) (.var 4)) .nil))) (.cons (.var 4) .nil)))
noncomputable def ztj:T:=(.cons (.asgn (.var 11) (.blt .min (.cons (.var 9) (.cons (.item (.var 3) (.var 2)) .nil)))) (.cons (.ite (.bo .And (.cons (.cmp .Gt (.var 11) (.int 0)) (.cons (.call "good" (.cons (.item (.var 0) (.var 2)) (.cons (.item (.var 1) (.var 8)) .nil))) .nil))) (.cons (.expr (.meth (.var 6) "append" (.cons (.tup (.cons (.var 8) (.cons (.var 2) (.cons (.var 11) .nil)))) .nil))) (.cons (.asgn (.var 9) (.bin .Sub (.var 9) (.var 11))) (.cons (.asgn (.item (.var 3) (.var 2)) (.bin .Sub (.item (.var 3) (.var 2)) (.var 11))) .nil))) .nil) .nil))
noncomputable def zti:T:=(.cons (.asgn (.var 9) (.item (.item (.var 1) (.var 8)) (.int 3))) (.cons (.for_ (.tup (.cons (.var 10) (.cons (.var 2) .nil))) (.var 5) ztj) .nil))
noncomputable def ztk:T:=(.cons (.expr (.call "need_rows" (.cons (.var 0) (.cons (.var 1) .nil)))) (.cons (.asgnC 3 true false zth [2] (.var 0) .nil) (.cons (.asgn (.var 5) (.blt .sorted (.cons (.comp false false ztg [4] (.blt .range (.cons (.blt .len (.cons (.var 0) .nil)) .nil)) .nil) .nil))) (.cons (.asgn (.var 6) (.lst true .nil)) (.cons (.for_ (.tup (.cons (.var 7) (.cons (.var 8) .nil))) (.blt .sorted (.cons (.comp false false ztf [4] (.blt .range (.cons (.blt .len (.cons (.var 1) .nil)) .nil)) .nil) .nil)) zti) (.cons (.ret (.blt .sorted (.cons (.var 6) .nil))) .nil))))))
noncomputable def z4n:List Str:=["lots","lines","lot","rest","place","rows","found","turned","line","wanted","last","count"]
noncomputable def zpy:T:=(.cons (.ite (.cmp .Lt (.var 1) (.blt .len (.cons (.var 0) .nil))) (.cons (.ret (.item (.var 0) (.var 1))) .nil) .nil) (.cons (.ret (.int 0)) .nil))
noncomputable def zxx:List Str:=["_law_script","_law_k"]
noncomputable def zd9:T:=(.cons (.ret (.bo .And (.cons (.isi (.var 0) .int) (.cons (.un .Not (.isi (.var 0) .bool)) .nil)))) .nil)
noncomputable def zoh:List Str:=["_law_found"]
noncomputable def zkh:T:=(.item (.var 2) (.bin .Mod (.bin .Add (.var 0) (.bin .Mult (.var 5) (.var 4))) (.int 26)))
noncomputable def zji:T:=(.cons (.asgn (.var 2) (.str "abcdefghijklmnopqrstuvwxyz")) (.cons (.asgn (.var 3) (.bin .Add (.int 1) (.bin .Mod (.bin .FloorDiv (.var 0) (.int 26)) (.int 12)))) (.cons (.asgn (.var 4) (.bin .Add (.int 1) (.bin .Mod (.bin .FloorDiv (.var 0) (.int 312)) (.int 25)))) (.cons (.asgn (.var 6) (.meth (.str "") "join" (.cons (.comp false false zkh [5] (.blt .range (.cons (.var 3) .nil)) .nil) .nil))) (.cons (.asgn (.var 7) (.bin .Mod (.bin .FloorDiv (.var 0) (.int 5)) (.var 3))) (.cons (.ite (.cmp .Eq (.bin .Mod (.var 0) (.int 4)) (.int 0)) (.cons (.ret (.slice (.var 6) .nil (.blt .max (.cons (.int 1) (.cons (.bin .Sub (.var 3) (.var 1)) .nil))))) .nil) .nil) (.cons (.ret (.bin .Add (.bin .Add (.slice (.var 6) .nil (.var 7)) (.item (.var 2) (.bin .Mod (.bin .Add (.var 0) (.bin .Mult (.int 5) (.var 1))) (.int 26)))) (.slice (.var 6) (.bin .Add (.var 7) (.int 1)) .nil))) .nil)))))))
noncomputable def zr6:List Str:=["_law_cell","_law_k","_law_letters","_law_size","_law_step","_law_at_here","_law_word_here","_law_place"]
noncomputable def zha:T:=(.cons (.ret (.bin .FloorDiv (.bin .Pow (.bin .Add (.bin .Mult (.var 0) (.int 48271)) (.bin .Mult (.int 7919) (.var 1))) (.int 3)) (.int 11))) .nil)
noncomputable def zoi:List Str:=["_law_cell","_law_k"]
noncomputable def zl4:T:=(.cons (.asgn (.attr (.var 0) "day") (.int 0)) (.cons (.asgn (.attr (.var 0) "lots") (.dict .nil .nil)) (.cons (.asgn (.attr (.var 0) "lines") (.dict .nil .nil)) (.cons (.asgn (.attr (.var 0) "gave") (.lst true .nil)) (.cons (.asgn (.attr (.var 0) "wasted") (.lst true .nil)) (.cons (.asgn (.attr (.var 0) "came") (.lst true .nil)) .nil))))))
noncomputable def zml:List Str:=["self"]
noncomputable def zhc:T:=(.cons (.ite (.un .Not (.call "is_lot" (.cons (.tup (.cons (.var 1) (.cons (.var 2) (.cons (.var 3) .nil)))) .nil))) (.cons (.raise "BadLot" (.cons (.str "no lot") .nil)) .nil) .nil) (.cons (.ite (.cmp .Lt (.var 2) (.attr (.var 0) "day")) (.cons (.raise "Late" (.cons (.str "the last day is gone by") .nil)) .nil) .nil) (.cons (.ite (.cmp .GtE (.blt .len (.cons (.attr (.var 0) "lots") .nil)) (.int 100)) (.cons (.raise "Full" (.cons (.str "100 lots are there") .nil)) .nil) .nil) (.cons (.asgn (.var 4) (.blt .len (.cons (.attr (.var 0) "gave") .nil))) (.cons (.asgn (.item (.attr (.var 0) "lots") (.var 4)) (.tup (.cons (.var 1) (.cons (.var 2) (.cons (.var 3) .nil))))) (.cons (.expr (.meth (.attr (.var 0) "gave") "append" (.cons (.int 0) .nil))) (.cons (.expr (.meth (.attr (.var 0) "wasted") "append" (.cons (.int 0) .nil))) (.cons (.ret (.var 4)) .nil))))))))
noncomputable def zhr:List Str:=["self","ware","last","count","number"]
noncomputable def zkl:T:=(.cons (.ite (.un .Not (.call "is_line" (.cons (.tup (.cons (.var 1) (.cons (.var 2) (.cons (.var 3) (.cons (.var 4) .nil))))) .nil))) (.cons (.raise "BadLine" (.cons (.str "no line") .nil)) .nil) .nil) (.cons (.ite (.cmp .Lt (.var 2) (.attr (.var 0) "day")) (.cons (.raise "Late" (.cons (.str "the day is gone by") .nil)) .nil) .nil) (.cons (.ite (.cmp .GtE (.blt .len (.cons (.attr (.var 0) "lines") .nil)) (.int 100)) (.cons (.raise "Full" (.cons (.str "100 lines are open") .nil)) .nil) .nil) (.cons (.asgn (.var 5) (.blt .len (.cons (.attr (.var 0) "came") .nil))) (.cons (.asgn (.item (.attr (.var 0) "lines") (.var 5)) (.tup (.cons (.var 1) (.cons (.var 2) (.cons (.var 3) (.cons (.var 4) .nil)))))) (.cons (.expr (.meth (.attr (.var 0) "came") "append" (.cons (.int 0) .nil))) (.cons (.ret (.var 5)) .nil)))))))
noncomputable def zkx:List Str:=["self","ware","day","left","count","number"]
noncomputable def ziz:T:=(.cons (.ite (.bo .Or (.cons (.un .Not (.call "is_whole" (.cons (.var 1) .nil))) (.cons (.cmp .NotIn (.var 1) (.attr (.var 0) "lines")) .nil))) (.cons (.raise "NoNumber" (.cons (.str "no open line") .nil)) .nil) .nil) (.cons (.expr (.meth (.attr (.var 0) "lines") "pop" (.cons (.var 1) .nil))) .nil))
noncomputable def zi4:List Str:=["self","line"]
noncomputable def zhf:T:=(.item (.attr (.var 0) "lots") (.var 3))
noncomputable def zhe:T:=(.item (.attr (.var 0) "lines") (.var 3))
noncomputable def zhd:T:=(.tup (.cons (.item (.var 2) (.var 5)) (.cons (.item (.var 1) (.var 6)) (.cons (.var 7) .nil))))
noncomputable def zl3:T:=(.cons (.asgn (.var 1) (.blt .sorted (.cons (.attr (.var 0) "lots") .nil))) (.cons (.asgn (.var 2) (.blt .sorted (.cons (.attr (.var 0) "lines") .nil))) (.cons (.asgn (.var 4) (.call "best" (.cons (.comp false false zhf [3] (.var 1) .nil) (.cons (.comp false false zhe [3] (.var 2) .nil) .nil)))) (.cons (.ret (.comp false false zhd [5,6,7] (.var 4) .nil)) .nil))))
noncomputable def zmk:List Str:=["self","lots","lines","number","found","line","lot","count"]
noncomputable def zgn:T:=(.cons (.ite (.cmp .Lt (.item (.item (.attr (.var 0) "lots") (.var 2)) (.int 1)) (.var 1)) (.cons (.asgn (.item (.attr (.var 0) "wasted") (.var 2)) (.item (.item (.attr (.var 0) "lots") (.var 2)) (.int 2))) (.cons (.expr (.meth (.attr (.var 0) "lots") "pop" (.cons (.var 2) .nil))) .nil)) .nil) .nil)
noncomputable def zkj:T:=(.cons (.for_ (.var 2) (.blt .sorted (.cons (.attr (.var 0) "lots") .nil)) zgn) .nil)
noncomputable def zkv:List Str:=["self","day","number"]
noncomputable def zhj:T:=(.cons (.ite (.cmp .Eq (.item (.item (.attr (.var 0) "lines") (.var 3)) (.int 1)) (.var 1)) (.cons (.expr (.meth (.var 2) "append" (.cons (.tup (.cons (.var 1) (.cons (.var 3) (.cons (.var 4) (.cons (.var 5) .nil))))) .nil))) .nil) .nil) .nil)
noncomputable def zhi:T:=(.cons (.asgn (.tup (.cons (.var 7) (.cons (.var 8) (.cons (.var 9) .nil)))) (.item (.attr (.var 0) "lots") (.var 4))) (.cons (.asgn (.item (.attr (.var 0) "lots") (.var 4)) (.tup (.cons (.var 7) (.cons (.var 8) (.cons (.bin .Sub (.var 9) (.var 5)) .nil))))) (.cons (.asgn (.item (.attr (.var 0) "gave") (.var 4)) (.bin .Add (.item (.attr (.var 0) "gave") (.var 4)) (.var 5))) (.cons (.asgn (.item (.attr (.var 0) "came") (.var 3)) (.bin .Add (.item (.attr (.var 0) "came") (.var 3)) (.var 5))) .nil))))
noncomputable def zhh:T:=(.cons (.ite (.cmp .Eq (.item (.item (.attr (.var 0) "lines") (.var 10)) (.int 1)) (.var 1)) (.cons (.expr (.meth (.attr (.var 0) "lines") "pop" (.cons (.var 10) .nil))) .nil) .nil) .nil)
noncomputable def zhg:T:=(.cons (.ite (.cmp .Eq (.item (.item (.attr (.var 0) "lots") (.var 10)) (.int 2)) (.int 0)) (.cons (.expr (.meth (.attr (.var 0) "lots") "pop" (.cons (.var 10) .nil))) .nil) .nil) .nil)
noncomputable def zl5:T:=(.cons (.asgn (.var 2) (.lst true .nil)) (.cons (.for_ (.tup (.cons (.var 3) (.cons (.var 4) (.cons (.var 5) .nil)))) (.methI (.var 0) "plan" .nil) zhj) (.cons (.for_ (.tup (.cons (.var 6) (.cons (.var 3) (.cons (.var 4) (.cons (.var 5) .nil))))) (.var 2) zhi) (.cons (.for_ (.var 10) (.blt .sorted (.cons (.attr (.var 0) "lines") .nil)) zhh) (.cons (.for_ (.var 10) (.blt .sorted (.cons (.attr (.var 0) "lots") .nil)) zhg) (.cons (.ret (.var 2)) .nil))))))
noncomputable def zmm:List Str:=["self","day","told","line","lot","count","day_told","ware","last","rest","number"]
noncomputable def zgp:T:=(.item (.item (.attr (.var 0) "lines") (.var 2)) (.int 1))
noncomputable def zgq:T:=(.cmp .Lt (.item (.item (.attr (.var 0) "lines") (.var 2)) (.int 1)) (.var 1))
noncomputable def zgr:T:=(.cons (.expr (.methI (.var 0) "throw" (.cons (.var 5) .nil))) (.cons (.asgn (.var 4) (.bin .Add (.var 4) (.methI (.var 0) "deal" (.cons (.var 5) .nil)))) .nil))
noncomputable def zkm:T:=(.cons (.ite (.bo .Or (.cons (.un .Not (.call "is_whole" (.cons (.var 1) .nil))) (.cons (.un .Not (.cmp2 (.attr (.var 0) "day") .LtE (.var 1) .LtE (.int 1000000000000))) .nil))) (.cons (.raise "BadDay" (.cons (.str "no day to go to") .nil)) .nil) .nil) (.cons (.asgnC 3 false true zgp [2] (.attr (.var 0) "lines") zgq) (.cons (.asgn (.var 4) (.lst false .nil)) (.cons (.for_ (.var 5) (.blt .sorted (.cons (.blt .set (.cons (.var 3) .nil)) .nil)) zgr) (.cons (.expr (.methI (.var 0) "throw" (.cons (.var 1) .nil))) (.cons (.asgn (.attr (.var 0) "day") (.var 1)) (.cons (.ret (.var 4)) .nil)))))))
noncomputable def zky:List Str:=["self","day","number","days","found","here"]
noncomputable def zgo:T:=(.bin .Add (.tup (.cons (.var 1) .nil)) (.item (.attr (.var 0) "lots") (.var 1)))
noncomputable def zkk:T:=(.cons (.ret (.comp true false zgo [1] (.blt .sorted (.cons (.attr (.var 0) "lots") .nil)) .nil)) .nil)
noncomputable def zkw:List Str:=["self","number"]
noncomputable def zc9:T:=(.bin .Add (.tup (.cons (.var 1) .nil)) (.item (.attr (.var 0) "lines") (.var 1)))
noncomputable def zer:T:=(.cons (.ret (.comp true false zc9 [1] (.blt .sorted (.cons (.attr (.var 0) "lines") .nil)) .nil)) .nil)
noncomputable def zev:List Str:=["self","number"]
end Mine
end
section
namespace Mine
open PySem
variable {c:Cx} {d:Nat} {σ:Led} {P P':V->Led->Prop} {X:XP} {ρ:Rho} {K K':Fl->Rho->Led->Prop} {N:List Str}
noncomputable def args:Nat->List V->Rho
 | _,[]=>[]
 | i,v::vs=>(i,v)::args (i+1) vs
theorem zoe:∀ (vs:List V) (i:Nat),i+vs.length<=N.length->Nm N (args i vs)=((N.drop i).take vs.length).zip vs
 | [],i,_=>by simp [args,Nm]
 | v::vs,i,h=>by
  rw [List.length_cons] at h
  have hi:i<N.length:=by lia
  have hx:N[i]?=some N[i]:=List.getElem?_eq_getElem hi
  show Nm N ((i,v)::args (i+1) vs)=_
  rw [zdg hx,zoe vs (i+1) (by lia),List.drop_eq_getElem_cons hi,List.length_cons,List.take_succ_cons,List.zip_cons_cons]
structure FnT (k:Base) (x:Str) (np:Nat) (t:T):Prop where
 ex:∃ st G N,Fn k x st/\GlobOk k G/\zil N/\zbo st=N.take np/\np<=N.length/\z3y (scS st) (zbo st)=true/\chk G N t (scS st) (.b (zf0 st))=true
noncomputable def zw5 (P:V->Led->Prop):Fl->Rho->Led->Prop:=fun f z1 σ=>Ret P f [] σ
theorem zwm {f:Fl} {m m':zaf} (h:Ret P f m σ):Ret P f m' σ:=by
 cases f <;> exact h
theorem z3w {x:Str} {vs:List V} {t:T} (hf:FnT c.k x vs.length t) (h:JB c d X t (args 0 vs) σ (zw5 P)):CallN c (d+1) x vs σ P X:=by
 obtain ⟨st,G,N,h1,h2,h3,h4,h5,h6,h7⟩:=hf.ex
 refine zw1 (m₀:=(zbo st).zip vs) h2.ok h1 ?_ h6 (by rw [h4,List.length_take];lia) rfl
 have:=h G N (scS st) (zf0 st) h2 h3 h7
 rw [zoe vs 0 (by lia),List.drop_zero,← h4] at this
 exact this.mono fun f m' σ' ⟨ρ',_,q⟩=>zwm q
theorem zae {x:Str} {vs:List V} {t:T} (hf:FnT c.k x vs.length t) (h:(ex d 100).S c X t (args 0 vs) σ (zw5 P)):CallN c (d+1) x vs σ P X:=z3w hf (zc5 h)
theorem zcj {F:List Addr} {ws:List V} (h:P (.lst ws) σ):zss F false P ws σ:=h
theorem zjv {F:List Addr} {ws:List V} (h:∀ a,a∉zab σ->a∉F->P (.ref a) ((a,.list ws)::σ)):zss F true P ws σ:=h
theorem zas {v:V} (h:P v σ):Ret P (.ret v) [] σ:=⟨v,σ,.keep (.refl _),h⟩
theorem zgy (h:P .none σ):Ret P .next [] σ:=⟨σ,.refl _,h⟩
theorem zp1 {v:V} {σ':Led} (k:σ.Sublist σ') (h:P v σ):Ret P (.ret v) [] σ':=⟨v,σ,.keep k,h⟩
theorem zaz {ns:List Nat} {elt:T} {Kf:List V->Led->Prop} {α:Type} (e f:α->V) (rows:List α):∀ (acc:List V),(∀ a∈rows,∃ ρ₁,bnd ns (e a) ρ=some ρ₁/\JE c d NoX elt ρ₁ σ (fun w σ'=>w=f a/\σ'=σ))->Kf (acc++rows.map f) σ->JComp c d ns false .nil elt ρ Kf (rows.map e) acc σ:=by
 induction rows with
 | nil=>
  intro acc _ h
  rw [List.map_nil,List.append_nil] at h
  exact h
 | cons a rows ih=>
  intro acc hs h
  obtain ⟨ρ₁,h1,h2⟩:=hs a (.head _)
  refine ⟨ρ₁,h1,JE.mono h2 fun w σ' q=>?_⟩
  rw [q.1,q.2]
  refine ih _ (fun b hb=>hs b (.tail _ hb)) ?_
  rw [List.append_assoc];exact h
theorem zg0 {ns:List Nat} {cond elt:T} {Kf:List V->Led->Prop} {α:Type} (e f:α->V) (p:α->Bool) (rows:List α):∀ (acc:List V),(∀ a∈rows,∃ ρ₁,bnd ns (e a) ρ=some ρ₁/\JT c d NoX cond ρ₁ σ (fun b σ'=>b=p a/\σ'=σ)/\(p a=true->JE c d NoX elt ρ₁ σ (fun w σ'=>w=f a/\σ'=σ)))->
  Kf (acc++(rows.filter p).map f) σ->JComp c d ns true cond elt ρ Kf (rows.map e) acc σ:=by
 induction rows with
 | nil=>
  intro acc _ h
  rw [List.filter_nil,List.map_nil,List.append_nil] at h
  exact h
 | cons a rows ih=>
  intro acc hs h
  obtain ⟨ρ₁,h1,h2,h3⟩:=hs a (.head _)
  refine ⟨ρ₁,h1,JT.mono h2 fun b σ' q=>?_⟩
  rw [q.1,q.2]
  rw [List.filter_cons] at h
  cases hp:p a with
  | true=>
   rw [hp,if_pos rfl,List.map_cons] at h
   refine (h3 hp).mono fun w σ' q=>?_
   rw [q.1,q.2]
   refine ih _ (fun b hb=>hs b (.tail _ hb)) ?_
   rw [List.append_assoc];exact h
  | false=>
   rw [hp,if_neg Bool.false_ne_true] at h
   exact ih _ (fun b hb=>hs b (.tail _ hb)) h
theorem RSub.nil:RSub [] ρ:=fun z1 z2 h=>by cases h
theorem RSub.cons {ρ':Rho} {i:Nat} {v:V} (h:ρ.lookup i=some v) (r:RSub ρ' ρ):RSub ((i,v)::ρ') ρ:=fun j w e=>by
 rw [List.lookup_cons] at e
 cases hj:j == i with
 | true=>rw [hj] at e;cases e;rw [eq_of_beq hj];exact h
 | false=>rw [hj] at e;exact r j w e
theorem RSub.trans {ρ₁ ρ₂ ρ₃:Rho} (h:RSub ρ₁ ρ₂) (k:RSub ρ₂ ρ₃):RSub ρ₁ ρ₃:=fun i v e=>k i v (h i v e)
end Mine
end
section
namespace Mine
open PySem
noncomputable def fnB (G:Glob) (N:List Str) (t:T) (st:Stmt) (np:Nat):Bool:=
 zcs N && !N.contains (".0":Str) && zbo st == N.take np && decide (np<=N.length) && z3y (scS st) (zbo st) && chk G N t (scS st) (.b (zf0 st))
theorem FnT.of {k:Base} {x:Str} {st:Stmt} {np:Nat} {t:T} {G:Glob} {N:List Str} (h:Fn k x st) (hG:GlobOk k G) (hb:fnB G N t st np=true):FnT k x np t:=by
 obtain ⟨h1,h6⟩:=zaa hb
 obtain ⟨h1,h5⟩:=zaa h1
 obtain ⟨h1,h4⟩:=zaa h1
 obtain ⟨h1,h3⟩:=zaa h1
 obtain ⟨h1,h2⟩:=zaa h1
 exact ⟨st,G,N,h,hG,⟨zci h1,by simpa using h2⟩,eq_of_beq h3,of_decide_eq_true h4,h5,h6⟩
theorem zbc {α:Type} {p:α->Prop}:∀ a∈([]:List α),p a:=fun z1 h=>by cases h
theorem all_cons {α:Type} {p:α->Prop} {a:α} {l:List α} (h:p a) (r:∀ b∈l,p b):∀ b∈a::l,p b:=fun b hb=>by
 rcases List.mem_cons.mp hb with e | e
 ·rw [e];exact h
 ·exact r b e
theorem GlobOk.of {k:Base} {G:Glob} (ok:k.OK) (h1:∀ p∈G.gInts,Const k p.1 (.int p.2)) (h2:∀ p∈G.gStrs,Const k p.1 (.str p.2)) (h3:∀ x∈G.gDefs,Def k x) (h4:∀ f:Bf,Blt k f.name f.val) (hd:k.hd=true):GlobOk k G:=
 ⟨ok,fun x i e=>h1 _ (mem_of_lookup e),fun x y e=>h2 _ (mem_of_lookup e),fun x e=>h3 x (by simpa using e),h4,fun z1=>hd⟩
end Mine
end
section
namespace Mine
open PySem
variable {c:Cx} {d:Nat} {σ:Led} {P P':V->Led->Prop} {X:XP} {ρ:Rho} {K K':Fl->Rho->Led->Prop}
noncomputable def Glob.un (G:Glob):Glob:={ G with hd:=false }
theorem z7w (h:c.k.OK):c.un.k.OK:=⟨h.g,h.b,h.nolimit⟩
theorem GlobOk.un {G:Glob} (h:GlobOk c.k G):GlobOk c.un.k G.un:=⟨z7w h.ok,h.hInts,h.hStrs,h.hDefs,h.hBlts,fun q=>nomatch q⟩
def z7p (t:T):Prop:=∀ G N sc x,chk (Glob.un G) N t sc x=chk G N t sc x
def HB (c:Cx) (d:Nat) (t:T) (ρ:Rho) (σ:Led) (K:Fl->Rho->Led->Prop):Prop:=∀ G N sc ss,GlobOk c.k G->zil N->chk G N t sc (.b ss)=true->WSs c.un d sc ss (Nm N ρ) σ (zkb N K) NoX
theorem z8p {t:T} (b:z7p t) (h:JB c.un d NoX t ρ σ K):HB c d t ρ σ K:=fun G N sc ss hG hN hc=>h G.un N sc ss hG.un hN ((b G N sc _).trans hc)
theorem Fn.un {x:Str} {st:Stmt} (h:Fn c.k x st):Fn c.un.k x st:=by
 obtain ⟨f,hg,hf⟩:=h.ex
 exact ⟨f,hg,fun c' e=>⟨by rw [e];exact (hf c rfl).at_⟩⟩
theorem FnT.un {x:Str} {np:Nat} {t:T} (b:z7p t) (h:FnT c.k x np t):FnT c.un.k x np t:=by
 obtain ⟨st,G,N,h1,h2,h3,h4,h5,h6,h7⟩:=h.ex
 exact ⟨st,G.un,N,h1.un,h2.un,h3,h4,h5,h6,(b G N _ _).trans h7⟩
section
variable {x:Str} {C D:Addr} {bm bm':List Value} {b r:T} {σ0:Led} (own:OwnE c.k.h0 C bm) (hx:Exc c.k x D bm')
include own hx
omit own hx in
theorem z4v {G:Glob} {N:List Str} {sc:Scope} {v:Option Nat} {ts:List ExceptHandler} (hc:chk G N (.cons (.handler x v b) r) sc (.hl ts)=true) :
  ∃ p nm bs pos ts',ts=.ExceptHandler (some (.Name x p)) nm bs pos::ts'/\gi sc x=true/\z8w N sc v nm=true/\chk G N b sc (.b bs)=true/\chk G N r sc (.hl ts')=true:=by
 obtain ⟨t,ts',rfl,q⟩:=zap (show za8 ts (fun h hs=>chk G N (.handler x v b) sc (.hd h) && chk G N r sc (.hl hs))=true from hc)
 obtain ⟨q1,q2⟩:=zaa q
 obtain ⟨t,n,bs,p,rfl,k⟩:=zxu (show z7v t _=true from q1)
 obtain ⟨k,k3⟩:=zaa k
 obtain ⟨k1,k2⟩:=zaa k
 obtain ⟨e,rfl,k1⟩:=zbl k1
 obtain ⟨y,p',rfl,k1⟩:=zbg k1
 obtain ⟨k4,k5⟩:=zaa k1
 rw [eq_of_beq k4]
 exact ⟨p',n,bs,p,ts',rfl,k5,k2,k3,q2⟩
theorem z8l {i:Nat} {b₀ b₁:T} (hyes:(Value.ref C::bm).contains (.ref D)=true) (h:∀ e,HB c d (.cons b₀ b₁) [(i,.ref e)] ((e,.exc C)::σ) (fun fl z1 σ'=>K fl [] σ')):JH c d (.cons (.handler x (some i) (.cons b₀ b₁)) r) C σ0 σ K X:=fun G N sc ts hG hN hc=>by
 obtain ⟨p,nm,bs,pos,ts',rfl,k1,k2,k3,k4⟩:=z4v hc
 obtain ⟨n,rfl,w⟩:=zbl (show zcg nm _=true from k2)
 obtain ⟨w1,w2⟩:=zaa w
 have hb:=fun e=>h e G N sc bs hG hN k3
 obtain ⟨s,ss',rfl,_⟩:=zap (show za8 bs _=true from k3)
 refine z8c hG.ok hx (zi5 k1) own hyes (eq_of_beq w2) fun e=>?_
 have:=hb e
 rw [zdg (eq_of_beq w1)] at this
 exact this.mono fun f m' σ' k=>by
  obtain ⟨ρ',_,k⟩:=k
  exact ⟨[],Sub.refl',k⟩
end
end Mine
end
section
namespace Mine
open PySem
variable {c:Cx} {d:Nat} {σ:Led} {P P':V->Led->Prop} {X:XP} {ρ:Rho} {K K':Fl->Rho->Led->Prop} {N:List Str}
theorem ze8 {a:Addr} {kvs:List (Int × V)} {i:Int} {w:V} (hl:σ.lookup a=some (.dictI kvs)) (hw:kvs.lookup i=some w) (h:P w σ):zln c d (.ref a) (.int i) σ P:=fun v s hs=>zzo hl hw h (fun o x=>ze1 hs o x)
theorem zsu {a:Addr} {kvs:List (Str × V)} {i:Str} {w:V} (hl:σ.lookup a=some (.dictS kvs)) (hw:kvs.lookup i=some w) (h:P w σ):zln c d (.ref a) (.str i) σ P:=fun v s hs=>zm8 DK.str hl hw h (fun o x=>ze1 hs o x)
structure FnV (k:Base) (f:Value) (np:Nat) (t:T):Prop where
 ex:∃ st G N,(∀ c:Cx,c.k=k->FnAt c f (zbo st) (zf0 st) (scS st))/\GlobOk k G/\zil N/\zbo st=N.take np/\np<=N.length/\z3y (scS st) (zbo st)=true/\chk G N t (scS st) (.b (zf0 st))=true
theorem FnV.of {k:Base} {f:Value} {st:Stmt} {np:Nat} {t:T} {G:Glob} {N:List Str} (h:∀ c:Cx,c.k=k->FnAt c f (zbo st) (zf0 st) (scS st)) (hG:GlobOk k G) (hb:fnB G N t st np=true):FnV k f np t:=by
 obtain ⟨h1,h6⟩:=zaa hb
 obtain ⟨h1,h5⟩:=zaa h1
 obtain ⟨h1,h4⟩:=zaa h1
 obtain ⟨h1,h3⟩:=zaa h1
 obtain ⟨h1,h2⟩:=zaa h1
 exact ⟨st,G,N,h,hG,⟨zci h1,by simpa using h2⟩,eq_of_beq h3,of_decide_eq_true h4,h5,h6⟩
theorem zax {f:Value} {vs:List V} {t:T} (hf:FnV c.k f vs.length t) (h:(ex d 100).S c X t (args 0 vs) σ (zw5 P)):CallS c (d+1) f vs σ P X:=by
 obtain ⟨st,G,N,h1,h2,h3,h4,h5,h6,h7⟩:=hf.ex
 refine znv h2.ok (h1 c rfl) h6 (by rw [h4,List.length_take];lia) ?_
 have:=zc5 h G N (scS st) (zf0 st) h2 h3 h7
 rw [zoe vs 0 (by lia),List.drop_zero,← h4] at this
 exact this.mono fun f m' σ' ⟨ρ',_,q⟩=>zwm q
def z9l {α β:Type} (M:β->Rho) (J:List α->β->Led->Prop) (rest:List α) (fl:Fl) (ρ:Rho) (σ:Led):Prop:=fl=.next/\∃ s',RSub (M s') ρ/\J rest s' σ
theorem zb0 {t body:T} {α β:Type} (f:α->V) (M:β->Rho) (J:List α->β->Led->Prop) (rows:List α):∀ (s:β) (ρ:Rho) (σ:Led),RSub (M s) ρ->J rows s σ->
  (∀ s a rest σ,J (a::rest) s σ->JA c d NoX t (f a) (M s) σ (kJB c d NoX body (z9l M J rest)))->
  (∀ s ρ σ,RSub (M s) ρ->J [] s σ->K .next ρ σ)->JLoop c d t body K (rows.map f) ρ σ:=by
 induction rows with
 | nil=>exact fun s ρ σ hm hj z1 h=>h s ρ σ hm hj
 | cons a rows ih=>
  intro s ρ σ hm hj hstep h
  refine zwt hm ((hstep s a rows σ hj).mono fun ρ₁ σ₁ q=>JB.mono q fun fl ρ₂ σ₂ q=>?_)
  rw [q.1]
  exact q.2.elim fun s' q=>ih s' ρ₂ σ₂ q.1 q.2 hstep h
theorem zbb {a b:Addr} {o o':O} (h:σ.lookup a=some o'):(upd a o σ).lookup b=if b=a then some o else σ.lookup b:=by
 induction σ with
 | nil=>cases h
 | cons p r ih=>
  obtain ⟨x,y⟩:=p
  rw [List.lookup_cons] at h
  by_cases q:x=a
  ·subst q
   rw [zb4,List.lookup_cons,List.lookup_cons]
   by_cases z:b=x
   ·rw [beq_iff_eq.mpr z,if_pos z]
   ·rw [beq_eq_false_iff_ne.mpr z,if_neg z]
  ·rw [beq_eq_false_iff_ne.mpr fun e=>q e.symm] at h
   rw [zc7 q,List.lookup_cons,List.lookup_cons,ih h]
   by_cases z:b=x
   ·rw [beq_iff_eq.mpr z]
    dsimp only
    rw [if_neg fun e=>q (z.symm.trans e)]
   ·rw [beq_eq_false_iff_ne.mpr z]
theorem zbn {a:Addr} {o:O} (h:σ.lookup a=some o):a∈zab σ:=za3 h
theorem za2 {a b:Addr} {o:O} (h:σ.lookup a=some o) (hb:b∉zab σ):a≠b:=fun q=>hb (q ▸ zbn h)
noncomputable def z0a {α:Type} (i:Int) (x:α) (l:List (Int × α)):List (Int × α):=
 if (l.any fun p=>decide (p.1=i))=true then l.map (fun p=>if p.1=i then (p.1,x) else p) else l++[(i,x)]
theorem zp2 {α:Type} (v:α->V) (i:Int) (x:α) (l:List (Int × α)):z07 (l.map fun p=>(p.1,v p.2)) i (v x)=(z0a i x l).map fun p=>(p.1,v p.2):=by
 unfold z07 z0a
 have e:((l.map fun p=>(p.1,v p.2)).any fun kv=>decide (kv.1=i))=l.any fun p=>decide (p.1=i):=by rw [List.any_map];rfl
 rw [e]
 split
 ·rw [List.map_map,List.map_map]
  refine List.map_congr_left fun p z1=>?_
  simp only [Function.comp]
  split <;> rfl
 ·simp
theorem zm0 {α:Type} (v:α->V) (i:Int) (l:List (Int × α)):zi8 i (l.map fun p=>(p.1,v p.2))=(l.filter fun p=>decide (p.1≠i)).map fun p=>(p.1,v p.2):=by
 unfold zi8
 rw [List.filter_map];rfl
theorem zbh {α:Type} (v:α->V) (i:Int):∀ l:List (Int × α),(l.map fun p=>(p.1,v p.2)).lookup i=(l.lookup i).map v
 | []=>rfl
 | (j,y)::l=>by
  rw [List.map_cons,List.lookup_cons,List.lookup_cons,zbh v i l]
  cases i == j <;> rfl
theorem zbe {α:Type} {l:List (Int × α)} {p:Int × α} (hn:(l.map (·.1)).Nodup) (hp:p∈l):l.lookup p.1=some p.2:=by
 induction l with
 | nil=>cases hp
 | cons a l ih=>
  have hn:=List.nodup_cons.mp (show (a.1::l.map (·.1)).Nodup from hn)
  rw [show a=(a.1,a.2) from rfl,List.lookup_cons]
  rcases List.mem_cons.mp hp with q | q
  ·rw [q,beq_self_eq_true]
  ·rw [beq_eq_false_iff_ne.mpr fun (e:p.1=a.1)=>hn.1 (e ▸ List.mem_map.mpr ⟨p,q,rfl⟩)]
   exact ih hn.2 q
end Mine
end
section
namespace Mine
open PySem PyProof.Rows
theorem z1j {k:Base} {cr:ClsRec} {C N:Addr} {mN:Str->Option Value} (P:PlainAt k.h0 cr C N mN) (hK:Cls k C N mN) {x:Str} {m:MethRec} (hm:m∈cr.meths) (hx:m.name=x) {st:Stmt} {a:Arguments} {b:List Stmt} {sc:Scope} {r1 r2 r3 t1 t2 pos} (hst:st=.FunctionDef x a b r1 r2 r3 sc t1 t2 pos)
  (e1:m.params=a) (e2:m.body=b) (e3:m.scope=sc) (h1:a.posonlyargs=[]) (h2:a.vararg=none) (h3:a.kwonlyargs=[]) (h5:a.kwarg=none) (hn:zcs (zbo st)=true) {y:Option Value} (hB:typeLookup (.type "object") x=pure y) :
  znp k C x ((mN x).getD .none)/\(∀ c:Cx,c.k=k->FnAt c ((mN x).getD .none) (zbo st) (zf0 st) (scS st))/\∃ fa o,mN x=some (.ref fa)/\k.h0.get? fa=some o/\o.cls=.type "function":=by
 subst hst
 obtain ⟨f,o,pm,cd,doc,q1,q2,q3,q4,q5⟩:=P.meths m hm
 rw [hx] at q1
 rw [q1]
 have hn':zcs (a.args.map fun y:Arg=>y.arg)=true:=hn
 subst e1 e2 e3
 refine ⟨⟨N,mN,f,o,_,y,hK,q1,rfl,q2,q3,q4,hB⟩,fun c hck=>⟨f,o,_,rfl,by rw [hck];exact q2,q4,by rw [hck];exact q5,rfl,rfl,rfl,rfl,rfl,fun cs hl=>zd4 h1 rfl h2 h3 h5 rfl (zci hn') hl⟩,f,o,rfl,q2,q3⟩
noncomputable def zyw (st:Stmt):Arguments:=if h:st.ctorIdx=0 then Stmt.FunctionDef.elim (motive_2:=fun z1=>Arguments) st h (fun z1 a z2 z3 z4 z5 z6 z7 z8 z9=>a) else { posonlyargs:=[],args:=[],vararg:=none,kwonlyargs:=[],kw_defaults:=[],kwarg:=none,defaults:=[] }
noncomputable def zt2 (a:Arguments):Bool:=a.posonlyargs.isEmpty && a.vararg.isNone && a.kwonlyargs.isEmpty && a.kw_defaults.isEmpty && a.kwarg.isNone && a.defaults.isEmpty
noncomputable def z7k (x:Str) (st:Stmt):Bool:=if h:st.ctorIdx=0 then Stmt.FunctionDef.elim (motive_2:=fun z1=>Bool) st h (fun y z1 z2 z3 z4 z5 z6 z7 z8 z9=>y == x) else false
set_option tactic.hygienic true
theorem zqq {x:Str} {st:Stmt} (h:z7k x st=true):∃ a b r1 r2 r3 sc t1 t2 pos,st=.FunctionDef x a b r1 r2 r3 sc t1 t2 pos:=by
 unfold z7k at h
 split at h
 ·rename_i q
  revert h
  exact Stmt.FunctionDef.elim (motive_2:=fun st=>∀ q:st.ctorIdx=0,Stmt.FunctionDef.elim (motive_2:=fun z1=>Bool) st q (fun y z1 z2 z3 z4 z5 z6 z7 z8 z9=>y == x)=true->∃ a b r1 r2 r3 sc t1 t2 pos,st=.FunctionDef x a b r1 r2 r3 sc t1 t2 pos) st q
   (fun y a b r1 r2 r3 sc t1 t2 pos z1 hk=>by rw [eq_of_beq hk];exact ⟨a,b,r1,r2,r3,sc,t1,t2,pos,rfl⟩) q
 ·cases h
set_option tactic.hygienic false
theorem zjk {a:Arguments} (h:zt2 a=true):a.posonlyargs=[]/\a.vararg=none/\a.kwonlyargs=[]/\a.kw_defaults=[]/\a.kwarg=none/\a.defaults=[]:=by
 obtain ⟨h,e6⟩:=zaa h
 obtain ⟨h,e5⟩:=zaa h
 obtain ⟨h,e4⟩:=zaa h
 obtain ⟨h,e3⟩:=zaa h
 obtain ⟨e1,e2⟩:=zaa h
 exact ⟨List.isEmpty_iff.mp e1,Option.isNone_iff_eq_none.mp e2,List.isEmpty_iff.mp e3,List.isEmpty_iff.mp e4,Option.isNone_iff_eq_none.mp e5,List.isEmpty_iff.mp e6⟩
theorem TopAt.def2 {k:Base} {q:Program} {loose:List Str} (hp:TopAt k q loose) {x:Str} {i:Nat} {st:Stmt} (hi:q.main.body[i]?=some st) (hf:z7k x st=true) (hd:q.theDef x=some (zyw st,zf0 st,scS st)) (ha:zt2 (zyw st)=true) (hn:zcs (zbo st)=true):Fn k x st:=by
 obtain ⟨a,b,r1,r2,r3,sc,t1,t2,pos,rfl⟩:=zqq hf
 obtain ⟨e1,e2,e3,e4,e5,e6⟩:=zjk ha
 exact hp.def_ hi rfl hd e1 e2 e3 e4 e5 e6 hn
theorem zbw {k:Base} {cr:ClsRec} {C N:Addr} {mN:Str->Option Value} (P:PlainAt k.h0 cr C N mN) (hK:Cls k C N mN) {x:Str} {m:MethRec} (hm:m∈cr.meths) (hx:m.name=x) {st:Stmt} (hf:z7k x st=true)
  (e1:m.params=zyw st) (e2:m.body=zf0 st) (e3:m.scope=scS st) (ha:zt2 (zyw st)=true) (hn:zcs (zbo st)=true) {y:Option Value} (hB:typeLookup (.type "object") x=pure y) :
  znp k C x ((mN x).getD .none)/\(∀ c:Cx,c.k=k->FnAt c ((mN x).getD .none) (zbo st) (zf0 st) (scS st))/\∃ fa o,mN x=some (.ref fa)/\k.h0.get? fa=some o/\o.cls=.type "function":=by
 obtain ⟨a,b,r1,r2,r3,sc,t1,t2,pos,rfl⟩:=zqq hf
 obtain ⟨h1,h2,h3,_,h5,_⟩:=zjk ha
 exact z1j P hK hm hx rfl e1 e2 e3 h1 h2 h3 h5 hn hB
noncomputable def z9u (st:Stmt):List Stmt:=if h:st.ctorIdx=2 then Stmt.ClassDef.elim (motive_2:=fun z1=>List Stmt) st h (fun z1 z2 z3 b z4 z5 z6 z7 z8 z9 z10=>b) else []
end Mine
end
section
namespace Mine
open PySem
variable {c:Cx} {d:Nat} {σ:Led} {P P':V->Led->Prop} {X:XP} {ρ:Rho} {K K':Fl->Rho->Led->Prop}
set_option tactic.hygienic true
local macro_rules | `(tactic| walk_at "spec")=>`(tactic| fail)
local macro_rules | `(tactic| walk_at "side")=>`(tactic| first | lia | exact zr9 (by lia) (by lia) | exact zhs (by lia) (by lia))
local macro_rules | `(tactic| walk_at "sub")=>`(tactic| repeat (first | exact RSub.nil | apply RSub.cons rfl))
local macro_rules | `(tactic| walk_at "x")=>`(tactic| first
 | (with_reducible show CallN _ _ _ _ _ _ _;walk_at "spec")
 | with_reducible first | apply znb | apply zf4 | apply z61 | apply JA_go | apply zc5 | apply z8k | apply br_t | apply br_f
 | apply zas
 | refine Leaf.mk ⟨_,List.length_map _,?_⟩
 | apply Leaf.mk
 | (apply zyt <;> (intro hif;first | (with_reducible exact absurd hif Bool.false_ne_true) | (with_reducible exact absurd hif.symm Bool.false_ne_true) | ((with_reducible have hrf:false=false:=hif);clear hrf hif) | ((with_reducible have hrf:true=true:=hif);clear hrf hif) | try simp only [brs] at hif))
 | (apply Side.mk;focus walk_at "side"))
local macro_rules | `(tactic| walk_at "X")=>`(tactic| repeat' walk_at "x")
structure za5 (k:Base):Prop where
 f_is_whole:FnT k "is_whole" 1 zbj
 f_is_ware:FnT k "is_ware" 1 ztd
 f_is_day:FnT k "is_day" 1 zxc
 f_is_count:FnT k "is_count" 1 zrl
 f_is_lot:FnT k "is_lot" 1 zxb
 f_is_line:FnT k "is_line" 1 zte
 f_need:FnT k "need" 1 z37
 f_good:FnT k "good" 2 z38
 f_need_rows:FnT k "need_rows" 2 zn3
theorem zwe (hp:za5 c.k) {x:V} {a b:Int} {vs:List V} (h:P (.int (a+b)) σ):CallN c (d+1) "need" [.tup (x::.int a::.int b::vs)] σ P X:=by
 refine zae hp.f_need ?_
 walk_at "X"
 exact h
theorem z0o (hp:za5 c.k) {x y:Str} {last a b:Int} {us vs:List V} (h:P (.bool (x == y && decide (a+b<=last))) σ):CallN c (d+2) "good" [.tup (.str x::.int last::us),.tup (.str y::.int a::.int b::vs)] σ P X:=by
 refine zae hp.f_good ?_
 repeat' (first | walk_at "x" | (with_reducible refine zwe ?_ ?_;assumption))
 ·rename_i q
  rw [q,beq_self_eq_true,Bool.true_and] at h;exact h
 ·rename_i q
  rw [beq_eq_false_iff_ne.mpr q,Bool.false_and] at h;exact h
theorem zct (hp:za5 c.k) {i:Int} (h:P (.bool true) σ):CallN c (d+1) "is_whole" [.int i] σ P X:=by
 refine zae hp.f_is_whole ?_
 walk_at "X"
 exact h
local macro_rules | `(tactic| walk_at "spec")=>`(tactic| first | (with_reducible apply zwe;assumption) | (with_reducible apply z0o;assumption) | (with_reducible apply zct;assumption))
noncomputable abbrev zbv:Str:=Str.ofString "abcdefghijklmnopqrstuvwxyz"
structure Ware (x:Str):Prop where
 lo:1<=x.length
 hi:x.length<=12
 letters:∀ k∈x.cps.toList,97<=k/\k<123
noncomputable def zfc (x:Str):Bool:=decide (1<=(x.length:Int)) && decide ((x.length:Int)<=12) && x.cps.toList.all (fun k=>Txt.contains zbv ⟨#[k]⟩)
theorem zuy {k:Nat} (h1:97<=k) (h2:k<123):Txt.contains zbv ⟨#[k]⟩=true:=by
 have key:∀ n,n<26->Txt.contains zbv ⟨#[97+n]⟩=true:=by decide +kernel
 have:=key (k - 97) (by exact Ar.l01 (.lt (.s (.v 0) (.k 97)) (.k 26)) [(.lt (.v 0) (.k 123))] (by kernel_rfl) h2)
 rwa [show 97+(k - 97)=k by (exact Ar.l01 (.eq (.a (.k 97) (.s (.v 0) (.k 97))) (.v 0)) [(.le (.k 97) (.v 0))] (by kernel_rfl) h1)] at this
theorem Ware.b {x:Str} (h:Ware x):zfc x=true:=by
 unfold zfc
 have h1:=h.lo
 have h2:=h.hi
 simp only [Bool.and_eq_true,decide_eq_true_eq,List.all_eq_true]
 exact ⟨⟨by (exact Ar.l01 (.ile (.k 1) (.c (.v 0))) [(.le (.k 1) (.v 0))] (by kernel_rfl) h1),by (exact Ar.l01 (.ile (.c (.v 0)) (.k 12)) [(.le (.v 0) (.k 12))] (by kernel_rfl) h2)⟩,fun k hk=>zuy (h.letters k hk).1 (h.letters k hk).2⟩
theorem Ware.ok {x:Str} (h:Ware x):PyData.strOk x=true:=by
 unfold PyData.strOk
 rw [← Array.all_toList,List.all_eq_true]
 intro k hk
 have:=h.letters k hk
 simp;(exact Ar.l01 (.lt (.v 0) (.k 1114112)) [(.an (.le (.k 97) (.v 0)) (.lt (.v 0) (.k 123)))] (by kernel_rfl) this)
structure zq5 (x:Str):Prop where
 hi:x.length<=12
 b:zfc x=true
 ok:PyData.strOk x=true
theorem Ware.wok {x:Str} (h:Ware x):zq5 x:=⟨h.hi,h.b,h.ok⟩
theorem zih (hp:za5 c.k) {x:Str} (hx:x.length<=1000000) (h:P (.bool (zfc x)) σ):CallN c (d+1) "is_ware" [.str x] σ P X:=by
 refine zae hp.f_is_ware ?_
 have hs:sizeLine=16777216:=by rw [sizeLine_eq]
 unfold zfc at h
 walk_at "X"
 ·rename_i q1 q2
  rw [decide_eq_false q2,Bool.and_false,Bool.false_and] at h
  exact h
 ·rename_i q1 q2
  rw [decide_eq_true q1,decide_eq_true q2,Bool.true_and,Bool.true_and] at h
  refine ⟨_,[],by simp,zrd (by exact Ar.l02 (.le (.v 0) (.v 1)) [(.le (.v 0) (.k 1000000)),(.eq (.v 1) (.k 16777216))] (by kernel_rfl) hx hs),fun D=>?_⟩
  refine zaz (fun k=>.str ⟨#[k]⟩) (fun k=>.bool (Txt.contains zbv ⟨#[k]⟩)) x.cps.toList [] (fun k hk=>⟨_,rfl,?_⟩) ?_
  ·walk_at "X"
   exact ⟨rfl,rfl⟩
  ·rw [List.nil_append,show x.cps.toList.map (fun k=>V.bool (Txt.contains zbv ⟨#[k]⟩))=(x.cps.toList.map fun k=>Txt.contains zbv ⟨#[k]⟩).map V.bool by rw [List.map_map];rfl]
   refine zcj ?_
   refine Leaf.mk ⟨_,rfl,?_⟩
   refine zas ?_
   rw [List.all_map];exact h
 ·rename_i q1
  rw [decide_eq_false q1,Bool.false_and,Bool.false_and] at h
  exact h
noncomputable def zlv (i:Int):Bool:=decide (0<=i) && decide (i<=1000000000000)
noncomputable def zck (i:Int):Bool:=decide (1<=i) && decide (i<=1000000000000)
theorem zlj (hp:za5 c.k) {i:Int} (h:P (.bool (zlv i)) σ):CallN c (d+2) "is_day" [.int i] σ P X:=by
 refine zae hp.f_is_day ?_
 unfold zlv at h
 walk_at "X"
 ·rename_i q
  rw [decide_eq_true q,Bool.true_and] at h;exact h
 ·rename_i q
  rw [decide_eq_false q,Bool.false_and] at h;exact h
theorem zf2 (hp:za5 c.k) {i:Int} (h:P (.bool (zck i)) σ):CallN c (d+2) "is_count" [.int i] σ P X:=by
 refine zae hp.f_is_count ?_
 unfold zck at h
 walk_at "X"
 ·rename_i q
  rw [decide_eq_true q,Bool.true_and] at h;exact h
 ·rename_i q
  rw [decide_eq_false q,Bool.false_and] at h;exact h
structure Lot where
 w:Str
 last:Int
 n:Int
noncomputable def Lot.v (l:Lot):V:=.tup [.str l.w,.int l.last,.int l.n]
structure Lot.ok (l:Lot):Prop where
 w:zq5 l.w
 a0:0<=l.last
 a1:l.last<=1000000000000
 n0:1<=l.n
 n1:l.n<=1000000000000
structure Line where
 w:Str
 day:Int
 left:Int
 n:Int
noncomputable def Line.v (l:Line):V:=.tup [.str l.w,.int l.day,.int l.left,.int l.n]
structure Line.ok (l:Line):Prop where
 w:zq5 l.w
 a0:0<=l.day
 a1:l.day<=1000000000000
 b0:0<=l.left
 b1:l.left<=1000000000000
 n0:1<=l.n
 n1:l.n<=1000000000000
noncomputable def Line.need (l:Line):Int:=l.day+l.left
noncomputable def Lot.b (l:Lot):Bool:=zfc l.w && (zlv l.last && zck l.n)
noncomputable def Line.b (l:Line):Bool:=zfc l.w && (zlv l.day && (zlv l.left && zck l.n))
theorem Lot.ok.b {l:Lot} (o:l.ok):l.b=true:=by
 have h1:=o.a0
 have h2:=o.a1
 have h3:=o.n0
 have h4:=o.n1
 simp [Lot.b,o.w.b,zlv,zck,h1,h2,h3,h4]
theorem Line.ok.b {l:Line} (o:l.ok):l.b=true:=by
 have h1:=o.a0
 have h2:=o.a1
 have h3:=o.n0
 have h4:=o.n1
 have h5:=o.b0
 have h6:=o.b1
 simp [Line.b,o.w.b,zlv,zck,h1,h2,h3,h4,h5,h6]
theorem ze6 (hp:za5 c.k) {l:Lot} (hx:l.w.length<=1000000) (h:P (.bool l.b) σ):CallN c (d+3) "is_lot" [l.v] σ P X:=by
 refine zae hp.f_is_lot ?_
 unfold Lot.b at h
 repeat' (first | walk_at "x" | (with_reducible refine zih ?_ ?_ ?_;assumption;(first | assumption | lia)) | (with_reducible refine zlj ?_ ?_;assumption) | (with_reducible refine zf2 ?_ ?_;assumption))
 ·rename_i q1 q2;rw [q1,q2,Bool.true_and,Bool.true_and] at h;exact h
 ·rename_i q1 q2;rw [q1,q2,Bool.true_and,Bool.false_and] at h;exact h
 ·rename_i q1;rw [q1,Bool.false_and] at h;exact h
theorem zdl (hp:za5 c.k) {l:Line} (hx:l.w.length<=1000000) (h:P (.bool l.b) σ):CallN c (d+3) "is_line" [l.v] σ P X:=by
 refine zae hp.f_is_line ?_
 unfold Line.b at h
 repeat' (first | walk_at "x" | (with_reducible refine zih ?_ ?_ ?_;assumption;(first | assumption | lia)) | (with_reducible refine zlj ?_ ?_;assumption) | (with_reducible refine zf2 ?_ ?_;assumption))
 ·rename_i q1 q2 q3;rw [q1,q2,q3,Bool.true_and,Bool.true_and,Bool.true_and] at h;exact h
 ·rename_i q1 q2 q3;rw [q1,q2,q3,Bool.true_and,Bool.true_and,Bool.false_and] at h;exact h
 ·rename_i q1 q2;rw [q1,q2,Bool.true_and,Bool.false_and] at h;exact h
 ·rename_i q1;rw [q1,Bool.false_and] at h;exact h
theorem z20 (hp:za5 c.k) {l:Lot} {m:Line} (h:P (.bool (l.w == m.w && decide (m.day+m.left<=l.last))) σ):CallN c (d+2) "good" [l.v,m.v] σ P X:=z0o hp h
theorem z2y (hp:za5 c.k) {m:Line} (h:P (.int (m.day+m.left)) σ):CallN c (d+1) "need" [m.v] σ P X:=zwe hp h
local macro_rules | `(tactic| walk_at "spec")=>`(tactic| first | (with_reducible apply z20;assumption) | (with_reducible apply z2y;assumption))
theorem zqk {α:Type} (f:α->Bool) (l:List α):l.map (fun a=>V.bool (f a))=(l.map f).map V.bool:=by rw [List.map_map];rfl
theorem zo6 (hp:za5 c.k) {lots:List Lot} {lines:List Line} (h1:∀ l∈lots,l.ok) (h2:∀ l∈lines,l.ok) (hl1:lots.length<=100) (hl2:lines.length<=100) (h:P .none σ) :
  CallN c (d+4) "need_rows" [.lst (lots.map Lot.v),.lst (lines.map Line.v)] σ P X:=by
 refine zae hp.f_need_rows ?_
 repeat' (first | walk_at "x" | (with_reducible refine ze6 ?_ ?_ ?_;assumption;(first | assumption | lia)) | (with_reducible refine zdl ?_ ?_ ?_;assumption;(first | assumption | lia)))
 ·exfalso;lia
 refine ⟨_,[],by simp,zau,fun D=>?_⟩
 have hp':za5 ((c.pro []).hide D).k:=hp
 refine zaz Lot.v (fun l=>.bool l.b) lots [] (fun l hl=>⟨_,rfl,?_⟩) ?_
 ·have hw:=(h1 l hl).w.hi
  repeat' (first | walk_at "x" | (with_reducible refine ze6 ?_ ?_ ?_;assumption;(first | assumption | lia)) | (with_reducible refine zdl ?_ ?_ ?_;assumption;(first | assumption | lia)))
  exact ⟨rfl,rfl⟩
 refine zcj ?_
 rw [List.nil_append,zqk]
 refine Leaf.mk ⟨_,rfl,?_⟩
 rw [show ((lots.map Lot.b).all id)=true by rw [List.all_map,List.all_eq_true];exact fun l hl=>(h1 l hl).b]
 repeat' (first | walk_at "x" | (with_reducible refine ze6 ?_ ?_ ?_;assumption;(first | assumption | lia)) | (with_reducible refine zdl ?_ ?_ ?_;assumption;(first | assumption | lia)))
 ·exfalso;lia
 refine ⟨_,[],by simp,zau,fun D=>?_⟩
 have hp':za5 ((c.pro []).hide D).k:=hp
 refine zaz Line.v (fun l=>.bool l.b) lines [] (fun l hl=>⟨_,rfl,?_⟩) ?_
 ·have hw:=(h2 l hl).w.hi
  repeat' (first | walk_at "x" | (with_reducible refine ze6 ?_ ?_ ?_;assumption;(first | assumption | lia)) | (with_reducible refine zdl ?_ ?_ ?_;assumption;(first | assumption | lia)))
  exact ⟨rfl,rfl⟩
 refine zcj ?_
 rw [List.nil_append,zqk]
 refine Leaf.mk ⟨_,rfl,?_⟩
 rw [show ((lines.map Line.b).all id)=true by rw [List.all_map,List.all_eq_true];exact fun l hl=>(h2 l hl).b]
 refine zgy ?_
 exact h
structure Helps (k:Base):Prop where
 f_law_at:FnT k "_law_at" 2 zpy
 f_law_word:FnT k "_law_word" 2 zji
 f_law_mixed:FnT k "_law_mixed" 2 zha
noncomputable def at_ (xs:List Int) (k:Int):Int:=xs.getD k.toNat 0
theorem z9w (hp:Helps c.k) {xs:List Int} {k:Int} (hk:0<=k) (h:P (.int (at_ xs k)) σ):CallN c (d+1) "_law_at" [.lst (xs.map .int),.int k] σ P X:=by
 refine zae hp.f_law_at ?_
 walk_at "X"
 ·rename_i hq
  have hx:k.toNat<xs.length:=(Int.toNat_lt hk).mpr hq
  refine zag (.lst _) hk (w:=.int (xs[k.toNat])) (by simp [hx]) ?_
  refine zas ?_
  have:at_ xs k=xs[k.toNat]:=by unfold at_;simp [hx]
  rw [this] at h;exact h
 ·rename_i hq
  have:at_ xs k=0:=by unfold at_;rw [List.getD_eq_getElem?_getD,List.getElem?_eq_none ((Int.le_toNat hk).mpr (Int.not_lt.mp hq))];rfl
  rw [this] at h;exact h
local macro_rules | `(tactic| walk_at "spec")=>`(tactic| (with_reducible apply z9w;assumption;lia))
noncomputable def zew (i:Int):Nat:=97+(i % 26).toNat
theorem zjy {i:Int}:(Str.ofString "abcdefghijklmnopqrstuvwxyz").cps[(i % 26).toNat]?=some (zew i):=by
 have h:(i % 26).toNat<26:=(Int.toNat_lt (Int.emod_nonneg i (by decide))).mpr (Int.emod_lt_of_pos i (by decide))
 have key:∀ n,n<26->(Str.ofString "abcdefghijklmnopqrstuvwxyz").cps[n]?=some (97+n):=by decide +kernel
 exact key _ h
noncomputable def zb2 (c:Int):Int:=1+c / 26 % 12
noncomputable def z0w (c:Int):Int:=1+c / 312 % 25
noncomputable def zbp (c:Int):List Nat:=(zcf 0 (zb2 c)).map fun i=>zew (c+i * z0w c)
noncomputable def z3x (c k:Int):Str:=if c % 4=0 then zar none (some (max 1 (zb2 c - k))) ⟨(zbp c).toArray⟩
 else zar none (some (c / 5 % zb2 c)) ⟨(zbp c).toArray⟩++⟨#[zew (c+5 * k)]⟩++zar (some (c / 5 % zb2 c+1)) none ⟨(zbp c).toArray⟩
theorem zu3 (l:List Nat):Txt.join (Str.ofString "") (l.map fun k=>(⟨#[k]⟩:Str))=⟨l.toArray⟩:=by
 show Builtin.Str.glued _ _=_
 rw [StrLaws.glued_eq_join]
 exact zj0 l
theorem zly (c:Int):((zbp c).length:Int)=zb2 c:=by
 unfold zbp;rw [List.length_map,zes];unfold zb2;rw [Int.sub_zero];exact Int.toNat_of_nonneg (Int.add_nonneg (by decide) (Int.emod_nonneg _ (by decide)))
theorem zmr (i:Int):97<=zew i/\zew i<123:=⟨Nat.le_add_right _ _,Nat.add_lt_add_left ((Int.toNat_lt (Int.emod_nonneg i (by decide))).mpr (Int.emod_lt_of_pos i (by decide))) 97⟩
theorem zkf {c:Int} {k:Nat} (h:k∈zbp c):97<=k/\k<123:=by
 unfold zbp at h
 obtain ⟨i,_,rfl⟩:=List.mem_map.mp h
 exact zmr _
theorem zdb {α:Type} {lo hi:Option Int} {xs:List α} {a:α} (h:a∈slice lo hi xs):a∈xs:=by
 unfold slice at h
 exact List.mem_of_mem_drop (List.mem_of_mem_take h)
theorem zs7 (c k:Int):Ware (z3x c k):=by
 have hb:=zly c
 have hs:1<=zb2 c/\zb2 c<=12:=by unfold zb2;(exact Ar.l10 (.an (.ile (.k 1) (.a (.k 1) (.v 0))) (.ile (.a (.k 1) (.v 0)) (.k 12))) [(.ile (.k 0) (.v 0)),(.ilt (.v 0) (.k 12))] (by kernel_rfl) (Int.emod_nonneg _ (by decide)) (Int.emod_lt_of_pos _ (by decide)))
 unfold z3x
 split
 ·have e1:(slice none (some (max 1 (zb2 c - k))) (zbp c)).length=min (max 1 (zb2 c - k)).toNat (zbp c).length:=by rw [zjj _ (Int.le_trans (by decide) (Int.le_max_left 1 _)),List.length_take]
  refine ⟨?_,?_,fun a ha=>?_⟩
  ·rw [zao];show 1<=(slice none (some (max 1 (zb2 c - k))) (zbp c)).length;rw [e1]
   exact Nat.le_min.mpr ⟨Int.toNat_le_toNat (Int.le_max_left 1 _),Ar.l11 (.le (.k 1) (.v 0)) [(.ieq (.c (.v 0)) (.v 0)),(.an (.ile (.k 1) (.v 0)) (.ile (.v 0) (.k 12)))] (by kernel_rfl) hb hs⟩
  ·rw [zao];show (slice none (some (max 1 (zb2 c - k))) (zbp c)).length<=12;exact Nat.le_trans (zay _ _ _) (by exact Ar.l11 (.le (.v 0) (.k 12)) [(.ieq (.c (.v 0)) (.v 0)),(.an (.ile (.k 1) (.v 0)) (.ile (.v 0) (.k 12)))] (by kernel_rfl) hb hs)
  ·unfold zar at ha;exact zkf (zdb ha)
 ·have hp0:0<=c / 5 % zb2 c:=Int.emod_nonneg _ (by exact Ar.l10 (.no (.ieq (.v 0) (.k 0))) [(.an (.ile (.k 1) (.v 0)) (.ile (.v 0) (.k 12)))] (by kernel_rfl) hs)
  have hp1:c / 5 % zb2 c<zb2 c:=Int.emod_lt_of_pos _ (by exact Ar.l10 (.ilt (.k 0) (.v 0)) [(.an (.ile (.k 1) (.v 0)) (.ile (.v 0) (.k 12)))] (by kernel_rfl) hs)
  have e1:(slice none (some (c / 5 % zb2 c)) (zbp c)).length=min (c / 5 % zb2 c).toNat (zbp c).length:=by rw [zjj _ hp0,List.length_take]
  have e2:(slice (some (c / 5 % zb2 c+1)) none (zbp c)).length=(zbp c).length - (c / 5 % zb2 c+1).toNat:=by rw [zrr _ (Int.le_trans hp0 (Int.le_of_lt (Int.lt_succ _))),List.length_drop]
  generalize c / 5 % zb2 c=p at *
  refine ⟨?_,?_,fun a ha=>?_⟩
  ·rw [zao,zaj,zaj,List.length_append,List.length_append];exact Nat.le_trans (show 1<=[zew (c+5 * k)].length from Nat.le_refl 1) (Nat.le_trans (Nat.le_add_left _ _) (Nat.le_add_right _ _))
  ·rw [zao,zaj,zaj,List.length_append,List.length_append]
   show (slice none (some p) (zbp c)).length+1+(slice (some (p+1)) none (zbp c)).length<=12
   rw [e1,e2]
   obtain ⟨q,rfl⟩:=Int.eq_ofNat_of_zero_le hp0
   have m1:min ((q:Int).toNat) (zbp c).length<=q:=Nat.min_le_left _ _
   show min ((q:Int).toNat) (zbp c).length+1+((zbp c).length - (q+1))<=12
   exact Ar.l13 (.le (.a (.a (.v 0) (.k 1)) (.s (.v 1) (.a (.v 2) (.k 1)))) (.k 12)) [(.le (.v 0) (.v 2)),(.ieq (.c (.v 1)) (.v 0)),(.an (.ile (.k 1) (.v 0)) (.ile (.v 0) (.k 12))),(.ilt (.c (.v 2)) (.v 0))] (by kernel_rfl) m1 hb hs hp1
  ·rw [zaj,zaj] at ha
   rcases List.mem_append.mp ha with ha | ha
   ·rcases List.mem_append.mp ha with ha | ha
    ·exact zkf (zdb ha)
    ·have:a=zew (c+5 * k):=by simpa using ha
     rw [this];exact zmr _
   ·exact zkf (zdb ha)
theorem z5o (hp:Helps c.k) {x k:Int} (hk:0<=k) (hk':k<=1000) (h:P (.str (z3x x k)) σ):CallN c (d+1) "_law_word" [.int x,.int k] σ P X:=by
 refine zae hp.f_law_word ?_
 have hws:zb2 x=1+x / 26 % 12:=rfl
 have hwl:=zly x
 walk_at "X"
 refine ⟨_,_,zwo,?_⟩
 walk_at "X"
 refine ⟨_,[],by simp,zll (by exact Ar.l00 (.ile (.g (.k 1000000000000000)) (.k 0)) [] (by kernel_rfl)) (by exact Ar.l00 (.ile (.k 0) (.k 1000000000000000)) [] (by kernel_rfl)) (by exact Ar.l10 (.ile (.g (.k 1000000000000000)) (.a (.k 1) (.v 0))) [(.ile (.k 0) (.v 0))] (by kernel_rfl) (Int.emod_nonneg _ (by decide))) (by exact Ar.l10 (.ile (.a (.k 1) (.v 0)) (.k 1000000000000000)) [(.ilt (.v 0) (.k 12))] (by kernel_rfl) (Int.emod_lt_of_pos _ (by decide))) (by exact Ar.l10 (.ile (.s (.a (.k 1) (.v 0)) (.k 0)) (.k 16777216)) [(.ilt (.v 0) (.k 12))] (by kernel_rfl) (Int.emod_lt_of_pos _ (by decide))),fun D=>?_⟩
 refine zaz V.int (fun i=>.str ⟨#[zew (x+i * z0w x)]⟩) (zcf 0 (zb2 x)) [] (fun i hi=>⟨_,rfl,?_⟩) ?_
 ·rw [zsa] at hi
  walk_at "X"
  exact zlm (by exact Ar.l10 (.ile (.k 0) (.v 0)) [(.ile (.k 0) (.v 0))] (by kernel_rfl) (Int.emod_nonneg _ (by decide))) zjy (Int.lt_trans (Int.emod_lt_of_pos _ (by decide)) (by decide)) ⟨rfl,rfl⟩
 refine zcj ?_
 rw [List.nil_append,show (zcf 0 (zb2 x)).map (fun i=>V.str ⟨#[zew (x+i * z0w x)]⟩)=((zbp x).map fun k=>(⟨#[k]⟩:Str)).map V.str by unfold zbp;rw [List.map_map,List.map_map];rfl]
 have hbl:(⟨(zbp x).toArray⟩:Str).length<=sizeLine:=by
  rw [zao,sizeLine_eq];simp only [List.toList_toArray];(exact Ar.l21 (.le (.v 0) (.k 16777216)) [(.ieq (.v 0) (.a (.k 1) (.v 1))),(.ieq (.c (.v 0)) (.v 0)),(.ilt (.v 1) (.k 12))] (by kernel_rfl) hws hwl (Int.emod_lt_of_pos _ (by decide)))
 refine (show CallS _ _ _ _ _ _ _ from zw0 (.lst _) ?_ ?_)
 ·have:(((zbp x).map fun k=>(⟨#[k]⟩:Str)).map (·.length)).sum=(zbp x).length:=by
   rw [List.map_map]
   show ((zbp x).map fun z1=>1).sum=_
   induction zbp x with
   | nil=>rfl
   | cons a r ih=>simp only [List.map_cons,List.sum_cons,List.length_cons,ih];(exact Ar.l01 (.eq (.a (.k 1) (.v 0)) (.a (.v 0) (.k 1))) [] (by kernel_rfl) )
  have e0:(Str.ofString "").length=0:=by decide +kernel
  rw [this,e0];lia
 rw [zu3]
 have hpl:0<=x / 5 % (1+x / 26 % 12):=Int.emod_nonneg _ (by exact Ar.l10 (.no (.ieq (.a (.k 1) (.v 0)) (.k 0))) [(.ile (.k 0) (.v 0))] (by kernel_rfl) (Int.emod_nonneg _ (by decide)))
 have hpl':x / 5 % (1+x / 26 % 12)<1+x / 26 % 12:=Int.emod_lt_of_pos _ (by exact Ar.l10 (.ilt (.k 0) (.a (.k 1) (.v 0))) [(.ile (.k 0) (.v 0))] (by kernel_rfl) (Int.emod_nonneg _ (by decide)))
 walk_at "X"
 ·rename_i hif
  unfold z3x at h;rw [if_pos hif] at h;exact h
 ·refine zlm (by exact Ar.l10 (.ile (.k 0) (.v 0)) [(.ile (.k 0) (.v 0))] (by kernel_rfl) (Int.emod_nonneg _ (by decide))) zjy (Int.lt_trans (Int.emod_lt_of_pos _ (by decide)) (by decide)) ?_
  have hs1:∀ lo hi,(zar lo hi ⟨(zbp x).toArray⟩).length<=12:=fun lo hi=>by
   rw [zao];unfold zar;simp only [List.toList_toArray]
   exact Nat.le_trans (zay _ _ _) (by exact Ar.l21 (.le (.v 0) (.k 12)) [(.ieq (.v 0) (.a (.k 1) (.v 1))),(.ieq (.c (.v 0)) (.v 0)),(.ilt (.v 1) (.k 12))] (by kernel_rfl) hws hwl (Int.emod_lt_of_pos _ (by decide)))
  have hs2:sizeLine=16777216:=by rw [sizeLine_eq]
  walk_at "X"
  refine zdx (by have:=hs1 none (some (x / 5 % (1+x / 26 % 12)));rw [hs2];show _+1<=_;(exact Ar.l01 (.le (.a (.v 0) (.k 1)) (.k 16777216)) [(.le (.v 0) (.k 12))] (by kernel_rfl) this)) ?_
  walk_at "X"
  refine zdx ?_ ?_
  ·have h1:=hs1 none (some (x / 5 % (1+x / 26 % 12)))
   have h2:=hs1 (some (x / 5 % (1+x / 26 % 12)+1)) none
   rw [zao,zaj,List.length_append,← zao,← zao,hs2]
   show _+1+_<=_
   (exact Ar.l02 (.le (.a (.a (.v 0) (.k 1)) (.v 1)) (.k 16777216)) [(.le (.v 0) (.k 12)),(.le (.v 1) (.k 12))] (by kernel_rfl) h1 h2)
  walk_at "X"
  rename_i hif
  unfold z3x at h;rw [if_neg hif] at h;exact h
noncomputable def zgt (x k:Int):Int:=(x * 48271+7919 * k) ^ 3 / 11
theorem zb1 (hp:Helps c.k) {x k:Int} (hx:Sz 1048600 x) (hk:0<=k) (hk':k<=1000) (h:P (.int (zgt x k)) σ):CallN c (d+1) "_law_mixed" [.int x,.int k] σ P X:=by
 refine zae hp.f_law_mixed ?_
 have h1:Sz (1048600+64) (x * 48271):=hx.mul (Sz.small (by exact Ar.l00 (.ilt (.g (.k 9223372036854775808)) (.k 48271)) [] (by kernel_rfl)) (by exact Ar.l00 (.ilt (.k 48271) (.k 9223372036854775808)) [] (by kernel_rfl)))
 have h2:Sz (1048600+64) (7919 * k):=(Sz.small (by exact Ar.l10 (.ilt (.g (.k 9223372036854775808)) (.m 7919 (.v 0))) [(.ile (.k 0) (.v 0))] (by kernel_rfl) hk) (by exact Ar.l10 (.ilt (.m 7919 (.v 0)) (.k 9223372036854775808)) [(.ile (.v 0) (.k 1000))] (by kernel_rfl) hk')).mono (by exact Ar.l00 (.le (.k 64) (.a (.k 1048600) (.k 64))) [] (by kernel_rfl))
 walk_at "X"
 refine z23 (h1.add h2) (by exact Ar.l00 (.le (.a (.a (.k 1048600) (.k 64)) (.k 1)) (.k 40000000)) [] (by kernel_rfl)) ?_
 walk_at "X"
 exact h
open Deal in
noncomputable def z3z (x:Row):V:=.tup [.int x.1,.int x.2.1,.int x.2.2]
noncomputable def Lot.z:Lot:=⟨⟨#[]⟩,0,0⟩
noncomputable def Line.z:Line:=⟨⟨#[]⟩,0,0,0⟩
noncomputable def zgs (x:Int × Nat):V:=.tup [.int x.1,.int x.2]
theorem getD_get? {α:Type} (l:List α) (i:Nat) (z:α) (h:i<l.length):l[i]?=some (l.getD i z):=by simp [h]
theorem zu4 {α:Type} (f:α->V) (l:List α) (i:Nat) (z:α) (h:i<l.length):(l.map f)[(i:Int).toNat]?=some (f (l.getD i z)):=by
 simp [h]
theorem zej {n:Nat} (hn:n<=1000):zc6 c σ (.rng 0 (n:Int)) ((List.range n).map fun i:Nat=>V.int i):=by
 have h:=zll (c:=c) (σ:=σ) (lo:=0) (hi:=(n:Int)) (by exact Ar.l00 (.ile (.g (.k 1000000000000000)) (.k 0)) [] (by kernel_rfl)) (by exact Ar.l00 (.ile (.k 0) (.k 1000000000000000)) [] (by kernel_rfl)) (by exact Ar.l01 (.ile (.g (.k 1000000000000000)) (.c (.v 0))) [] (by kernel_rfl)) (by exact Ar.l01 (.ile (.c (.v 0)) (.k 1000000000000000)) [(.le (.v 0) (.k 1000))] (by kernel_rfl) hn) (by exact Ar.l01 (.ile (.s (.c (.v 0)) (.k 0)) (.k 16777216)) [(.le (.v 0) (.k 1000))] (by kernel_rfl) hn)
 have e:(zcf 0 (n:Int)).map V.int=(List.range n).map fun i:Nat=>V.int i:=by simp [zcf]
 rw [e] at h;exact h
noncomputable def z7j (x:Int × Nat):List Int:=[x.1,x.2]
noncomputable def z8y (x:Deal.Row):List Int:=[x.1,x.2.1,x.2.2]
theorem zf6 {α:Type} {f:α->V} {l:List α} {i:Nat} (z:α) (h:i<l.length) (k:P (f (l.getD i z)) σ):zln c d (.lst (l.map f)) (.int i) σ P:=zag (.lst _) (by exact Ar.l01 (.ile (.k 0) (.c (.v 0))) [] (by kernel_rfl)) (zu4 f l i z h) k
theorem zre {α:Type} {f:α->V} {l:List α} {i:Nat} {a:Addr} (hl:σ.lookup a=some (.list (l.map f))) (z:α) (h:i<l.length) (k:P (f (l.getD i z)) σ):zln c d (.ref a) (.int i) σ P:=zag (.ref hl) (by exact Ar.l01 (.ile (.k 0) (.c (.v 0))) [] (by kernel_rfl)) (zu4 f l i z h) k
theorem z40 {a b:Addr} {o:O} (h:b∉zab ((a,o)::σ)):b≠a/\a≠b:=by
 have:b≠a:=fun q=>h (by rw [q];cases o <;> simp [zab,O.addrs])
 exact ⟨this,this.symm⟩
noncomputable def z9o {α β:Type} (M:β->Rho) (L:β->Led) (J:List α->β->Prop) (rest:List α):Fl->Rho->Led->Prop:=fun fl ρ σ=>fl=.next/\∃ s',RSub (M s') ρ/\σ=L s'/\J rest s'
theorem zna {t body:T} {K:Fl->Rho->Led->Prop} {α β:Type} (f:α->V) (M:β->Rho) (L:β->Led) (J:List α->β->Prop) (rows:List α):∀ (s:β) (ρ:Rho),RSub (M s) ρ->J rows s->
  (∀ s a rest,J (a::rest) s->JA c d NoX t (f a) (M s) (L s) (kJB c d NoX body (z9o M L J rest)))->
  (∀ s ρ,RSub (M s) ρ->J [] s->K .next ρ (L s))->JLoop c d t body K (rows.map f) ρ (L s):=by
 induction rows with
 | nil=>exact fun s ρ hm hj z1 h=>h s ρ hm hj
 | cons a rows ih=>
  intro s ρ hm hj hstep h
  refine zwt hm ((hstep s a rows hj).mono fun ρ₁ σ₁ q=>JB.mono q fun fl ρ₂ σ₂ k=>?_)
  obtain ⟨k0,s',k1,k2,k3⟩:=k
  rw [k0,k2]
  exact ih s' ρ₂ k1 k3 hstep h
theorem zmn {S:Nat->Int} {n:Nat} {ys:List (Int × Nat)} (h:ys.Perm ((List.range n).map fun i=>(S i,i))):ys.length=n/\∀ y∈ys,y.2<n:=
 ⟨by simpa using h.length_eq,fun y hy=>by obtain ⟨i,hi,rfl⟩:=List.mem_map.mp (h.mem_iff.mp hy);exact List.mem_range.mp hi⟩
structure BS where
 want:Int
 rest:List Int
 found:List Deal.Row
noncomputable def zio (t:Nat) (D:List Deal.Row):Int:=(D.map fun x=>if x.2.1=t then x.2.2 else 0).sum
theorem zxd {a b:List Int} (h:a.Perm b):a.sum=b.sum:=by
 induction h with
 | nil=>rfl
 | cons x _ ih=>rw [List.sum_cons,List.sum_cons,ih]
 | swap x y l=>rw [List.sum_cons,List.sum_cons,List.sum_cons,List.sum_cons,← Int.add_assoc,← Int.add_assoc,Int.add_comm x y]
 | trans _ _ h1 h2=>exact h1.trans h2
theorem zrk {t:Nat} {D D':List Deal.Row} (h:D.Perm D'):zio t D=zio t D':=zxd (h.map _)
theorem zrj (t:Nat) (D:List Deal.Row) (x:Deal.Row):zio t (D++[x])=zio t D+if x.2.1=t then x.2.2 else 0:=by
 unfold zio;rw [List.map_append,List.sum_append];simp
structure Fit (lots:List Lot) (nl:Nat) (D:List Deal.Row):Prop where
 row:∀ x∈D,x.1<nl/\x.2.1<lots.length/\0<x.2.2
 le:∀ t,t<lots.length->zio t D<=(lots.getD t Lot.z).n
 len:D.length<=10000
theorem Fit.perm {lots:List Lot} {nl:Nat} {D D':List Deal.Row} (h:Fit lots nl D) (p:D'.Perm D):Fit lots nl D':=
 ⟨fun x hx=>h.row x (p.mem_iff.mp hx),fun t ht=>by rw [zrk p];exact h.le t ht,by rw [p.length_eq];exact h.len⟩
structure BI (lots:List Lot) (nl:Nat) (rest:List Int) (found:List Deal.Row):Prop where
 len:rest.length=lots.length
 row:∀ x∈found,x.1<nl/\x.2.1<lots.length/\0<x.2.2
 sum:∀ t,t<lots.length->0<=rest.getD t 0/\rest.getD t 0+zio t found=(lots.getD t Lot.z).n
theorem BI.fit {lots:List Lot} {nl:Nat} {rest:List Int} {found:List Deal.Row} (h:BI lots nl rest found) (hz:found.length<=10000):Fit lots nl found:=
 ⟨h.row,fun t ht=>by have:=h.sum t ht;(exact Ar.l30 (.ile (.v 0) (.v 1)) [(.an (.ile (.k 0) (.v 2)) (.ieq (.a (.v 2) (.v 0)) (.v 1)))] (by kernel_rfl) this),hz⟩
theorem BI.step {lots:List Lot} {nl l t:Nat} {rest:List Int} {found:List Deal.Row} {n:Int} (h:BI lots nl rest found) (hl:l<nl) (ht:t<lots.length) (h0:0<n) (hn:n<=rest.getD t 0) :
  BI lots nl (rest.set t (rest.getD t 0 - n)) (found++[(l,t,n)]):=by
 refine ⟨(List.length_set ..).trans h.len,fun x hx=>?_,fun q hq=>?_⟩
 ·rcases List.mem_append.mp hx with k | k
  ·exact h.row x k
  ·rw [List.mem_singleton.mp k];exact ⟨hl,ht,h0⟩
 ·have k:=h.sum q hq
  rw [zrj]
  by_cases e:t=q
  ·subst e
   rw [if_pos rfl,List.getD_eq_getElem?_getD,List.getElem?_set_self (h.len ▸ ht),Option.getD_some]
   (exact Ar.l40 (.an (.ile (.k 0) (.s (.v 0) (.v 1))) (.ieq (.a (.s (.v 0) (.v 1)) (.a (.v 2) (.v 1))) (.v 3))) [(.ile (.v 1) (.v 0)),(.an (.ile (.k 0) (.v 0)) (.ieq (.a (.v 0) (.v 2)) (.v 3)))] (by kernel_rfl) hn k)
  ·rw [if_neg e,List.getD_eq_getElem?_getD,List.getElem?_set_ne e,← List.getD_eq_getElem?_getD]
   (exact Ar.l30 (.an (.ile (.k 0) (.v 0)) (.ieq (.a (.v 0) (.a (.v 1) (.k 0))) (.v 2))) [(.an (.ile (.k 0) (.v 0)) (.ieq (.a (.v 0) (.v 1)) (.v 2)))] (by kernel_rfl) k)
theorem start {lots:List Lot} (h1:∀ l∈lots,l.ok) {t:Nat} (ht:t<lots.length):0<=(lots.map Lot.n).getD t 0/\(lots.map Lot.n).getD t 0+zio t []=(lots.getD t Lot.z).n:=by
 have e:(lots.map Lot.n).getD t 0=(lots.getD t Lot.z).n:=by simp [ht]
 have:=(h1 _ (List.mem_of_getElem? (getD_get? lots t Lot.z ht))).n0
 rw [e]
 exact ⟨by (exact Ar.l10 (.ile (.k 0) (.v 0)) [(.ile (.k 1) (.v 0))] (by kernel_rfl) this),Int.add_zero _⟩
section
variable (hp:za5 c.k) {lots:List Lot} {lines:List Line} (h1:∀ l∈lots,l.ok) (h2:∀ l∈lines,l.ok) (hl1:lots.length<=100) (hl2:lines.length<=100)
include hp h1 h2 hl1 hl2
theorem z5u (hf:FnT c.k "best" 2 ztk) (h:∀ D,Fit lots lines.length D->P (.lst (D.map z3z)) σ):CallN c (d+5) "best" [.lst (lots.map Lot.v),.lst (lines.map Line.v)] σ P X:=by
 refine zae hf ?_
 walk_at "X"
 refine zo6 hp h1 h2 hl1 hl2 ?_
 walk_at "X"
 refine ⟨_,[],by simp,zau,fun D=>?_⟩
 refine zaz Lot.v (fun l=>.int l.n) lots [] (fun l hl=>⟨_,rfl,?_⟩) ?_
 ·walk_at "X"
  exact ⟨rfl,rfl⟩
 refine zjv fun a hao haF=>?_
 rw [List.nil_append,show (lots.map fun l=>V.int l.n)=(lots.map Lot.n).map .int by rw [List.map_map];rfl]
 walk_at "X"
 refine ⟨_,[],by simp,zej (Nat.le_trans hl1 (by decide)),fun D=>?_⟩
 refine zaz (fun i:Nat=>V.int i) (fun i=>zgs ((lots.getD i Lot.z).last,i)) (List.range lots.length) [] (fun i hi=>⟨_,rfl,?_⟩) ?_
 ·walk_at "X"
  refine zf6 Lot.z (by simpa using hi) ?_
  walk_at "X"
  exact ⟨rfl,rfl⟩
 refine zcj ?_
 rw [List.nil_append,show (List.range lots.length).map (fun i=>zgs ((lots.getD i Lot.z).last,i))=((List.range lots.length).map fun i=>((lots.getD i Lot.z).last,i)).map zgs by rw [List.map_map];rfl]
 walk_at "X"
 refine zcc zgs z7j (fun z1=>rfl) (by intro x;simp [z7j]) (.lst _) (by rw [List.length_map,List.length_range];exact Nat.lt_of_le_of_lt hl1 (by decide)) fun ts hy=>?_
 have hts:=zmn hy
 clear hy
 walk_at "X"
 intro b hbo hbF
 obtain ⟨hab,hao'⟩:=z40 hbo
 walk_at "X"
 refine ⟨_,[],by simp,zej (Nat.le_trans hl2 (by decide)),fun D=>?_⟩
 have hp':za5 ((c.pro []).hide D).k:=hp
 refine zaz (fun i:Nat=>V.int i) (fun i=>zgs (-(lines.getD i Line.z).need,i)) (List.range lines.length) [] (fun i hi=>⟨_,rfl,?_⟩) ?_
 ·walk_at "X"
  refine zf6 Line.z (by simpa using hi) ?_
  walk_at "X"
  exact ⟨rfl,rfl⟩
 clear hp' D
 refine zcj ?_
 rw [List.nil_append,show (List.range lines.length).map (fun i=>zgs (-(lines.getD i Line.z).need,i))=((List.range lines.length).map fun i=>(-(lines.getD i Line.z).need,i)).map zgs by rw [List.map_map];rfl]
 walk_at "X"
 refine zcc zgs z7j (fun z1=>rfl) (by intro x;simp [z7j]) (.lst _) (by rw [List.length_map,List.length_range];exact Nat.lt_of_le_of_lt hl2 (by decide)) fun ls hy=>?_
 have hls:=zmn (S:=fun i=>-(lines.getD i Line.z).need) hy
 clear hy
 walk_at "X"
 refine ⟨_,[],by simp,zau,?_⟩
 refine zna zgs (fun z1=>[(6,.ref b),(5,.lst (ts.map zgs)),(3,.ref a),(0,.lst (lots.map Lot.v)),(1,.lst (lines.map Line.v))])
  (fun s:BS=>(b,.list (s.found.map z3z))::(a,.list (s.rest.map .int))::σ) (fun left s=>BI lots lines.length s.rest s.found/\s.found.length+100 * left.length<=10000/\∀ x∈left,x.2<lines.length) ls ⟨0,lots.map Lot.n,[]⟩ _ ?_ ?_ (fun s x left hj=>?_) fun s m hm hj=>?_
 ·walk_at "sub"
 ·refine ⟨⟨List.length_map _,fun z1 hx=>(nomatch hx),fun t ht=>start h1 ht⟩,by show 0+100 * ls.length<=10000;rw [hls.1];(exact Ar.l01 (.le (.a (.k 0) (.m 100 (.v 0))) (.k 10000)) [(.le (.v 0) (.k 100))] (by kernel_rfl) hl2),hls.2⟩
 ·have hp':za5 (c.pro []).k:=hp
  obtain ⟨j1,j2,j3⟩:=hj
  have hl:x.2<lines.length:=j3 x (.head _)
  rw [List.length_cons] at j2
  show JA _ _ _ _ (.tup [.int x.1,.int x.2]) _ _ _
  walk_at "X"
  refine zf6 Line.z hl ?_
  walk_at "X"
  refine ⟨_,[],by simp,zau,?_⟩
  refine zna zgs (fun s:BS=>[(9,.int s.want),(8,.int x.2),(6,.ref b),(5,.lst (ts.map zgs)),(3,.ref a),(0,.lst (lots.map Lot.v)),(1,.lst (lines.map Line.v))])
   (fun s=>(b,.list (s.found.map z3z))::(a,.list (s.rest.map .int))::σ) (fun left u=>BI lots lines.length u.rest u.found/\u.found.length+left.length<=s.found.length+100/\∀ t∈left,t.2<lots.length) ts ⟨(lines.getD x.2 Line.z).n,s.rest,s.found⟩ _ ?_ ?_ (fun u t rest hk=>?_) fun u m hm hk=>?_
  ·walk_at "sub"
  ·exact ⟨j1,by show s.found.length+ts.length<=_;rw [hts.1];exact Nat.add_le_add_left hl1 _,hts.2⟩
  ·have hp'':za5 ((c.pro []).pro []).k:=hp
   obtain ⟨k1,k2,k3⟩:=hk
   have ht:t.2<lots.length:=k3 t (.head _)
   rw [List.length_cons] at k2
   have hkl:BI lots lines.length u.rest u.found/\u.found.length+rest.length<=s.found.length+100/\∀ t∈rest,t.2<lots.length:=⟨k1,Nat.le_trans (Nat.add_le_add_left (Nat.le_succ _) _) k2,fun q hq=>k3 q (.tail _ hq)⟩
   show JA _ _ _ _ (.tup [.int t.1,.int t.2]) _ _ _
   walk_at "X"
   refine zre (zam hao' zai) 0 (by rw [k1.len];exact ht) ?_
   walk_at "X"
   ·refine zf6 Lot.z ht ?_
    walk_at "X"
    refine zf6 Line.z hl ?_
    walk_at "X"
    ·rename_i hc hg
     refine ⟨_,_,za9 zai,?_⟩
     walk_at "X"
     refine zba zai (by simpa [Cx.pro] using hbF) (by rw [List.length_map];(exact Ar.l04 (.lt (.v 0) (.k 16777216)) [(.le (.a (.v 1) (.m 100 (.a (.v 2) (.k 1)))) (.k 10000)),(.le (.a (.v 0) (.a (.v 3) (.k 1))) (.a (.v 1) (.k 100)))] (by kernel_rfl) j2 k2)) ?_
     rw [zb4]
     walk_at "X"
     refine zre (zam hao' zai) 0 (by rw [k1.len];exact ht) ?_
     walk_at "X"
     refine zdt (zam hao' zai) (by simpa [Cx.pro] using haF) (Int.natCast_nonneg _) (by rw [List.length_map,k1.len];simpa using ht) ?_
     rw [zc7 hab,zb4]
     refine ⟨rfl,⟨u.want - min u.want (u.rest.getD t.2 0),u.rest.set t.2 (u.rest.getD t.2 0 - min u.want (u.rest.getD t.2 0)),u.found++[(x.2,t.2,min u.want (u.rest.getD t.2 0))]⟩,by walk_at "sub",?_,k1.step hl ht hc (Int.min_le_right _ _),?_,hkl.2.2⟩
     ·show _=(b,Mine.O.list (List.map z3z _))::(a,Mine.O.list (List.map V.int _))::_
      rw [List.map_append,List.map_set];rfl
     ·show (u.found++[_]).length+_<=_
      rw [List.length_append];show u.found.length+1+rest.length<=_;rw [Nat.add_right_comm];exact k2
    ·exact ⟨rfl,u,by walk_at "sub",rfl,hkl⟩
   ·exact ⟨rfl,u,by walk_at "sub",rfl,hkl⟩
  ·refine z0t ⟨rfl,u,RSub.trans (by walk_at "sub") hm,rfl,hk.1,?_,fun q hq=>j3 q (.tail _ hq)⟩
   have:=hk.2.1
   rw [List.length_nil] at this
   (exact Ar.l03 (.le (.a (.v 0) (.m 100 (.v 1))) (.k 10000)) [(.le (.a (.v 2) (.m 100 (.a (.v 1) (.k 1)))) (.k 10000)),(.le (.a (.v 0) (.k 0)) (.a (.v 2) (.k 100)))] (by kernel_rfl) j2 this)
 refine za6 hm ?_
 clear hm
 walk_at "X"
 refine zcc z3z z8y (fun z1=>rfl) (by intro x;simp [z8y]) (.ref zai) (Nat.lt_of_le_of_lt hj.2.1 (by decide)) fun D hD=>?_
 exact zp1 (.cons _ (.cons _ (.refl _))) (h D ((hj.1.fit hj.2.1).perm hD))
end
def All (L σ:Led):Prop:=∀ p∈L,σ.lookup p.1=some p.2
section
variable {L σ':Led} {A F:List Addr} {a b:Addr} {o o':O}
theorem All.of (h:All L σ) (key:∀ x∈L.map (·.1),∀ z,σ.lookup x=some z->σ'.lookup x=some z):All L σ':=fun p hp=>key p.1 (List.mem_map_of_mem hp) _ (h p hp)
theorem All.has (h:All L σ):∀ x∈L.map (·.1),∃ v,σ.lookup x=some v:=fun x hx=>by
 obtain ⟨p,hp,e⟩:=List.mem_map.mp hx
 exact ⟨_,e ▸ h p hp⟩
theorem All.notin (h:All L σ) (hb:b∉zab σ):b∉L.map (·.1):=fun hm=>by
 obtain ⟨v,e⟩:=h.has b hm
 exact za2 e hb rfl
theorem All.put (h:All L σ) (nd:(L.map (·.1)).Nodup) (i:Nat) (hi:L[i]?=some (a,o')):All (L.set i (a,o)) (upd a o σ):=fun p hp=>by
 rw [zbb (h _ (List.mem_of_getElem? hi))]
 obtain ⟨j,hj⟩:=List.mem_iff_getElem?.mp hp
 rw [List.getElem?_set] at hj
 by_cases q:i=j
 ·rw [if_pos q] at hj
  by_cases z:i<L.length
  ·rw [if_pos z] at hj
   cases hj
   exact if_pos rfl
  ·rw [if_neg z] at hj;cases hj
 ·rw [if_neg q] at hj
  have hl:i<(L.map (·.1)).length:=by rw [List.length_map];exact (List.getElem?_eq_some_iff.mp hi).1
  rw [if_neg fun z=>q ((List.getElem?_inj hl nd).mp (by rw [List.getElem?_map,List.getElem?_map,hi,hj,Option.map_some,Option.map_some,z]))]
  exact h p (List.mem_of_getElem? hj)
theorem All.new1 (h:All L σ) (hb:b∉zab σ) (i:Nat):All (L.set i (b,o)) ((b,o)::σ):=fun p hp=>by
 rcases List.mem_or_eq_of_mem_set hp with q | q
 ·exact zam (za2 (h p q) hb) (h p q)
 ·rw [q];exact zai
theorem zju (hb:b∉A):∀ (i:Nat),A.Nodup->(A.set i b).Nodup:=by
 induction A with
 | nil=>exact fun i h=>h
 | cons x r ih=>
  intro i h
  obtain ⟨h1,h2⟩:=List.nodup_cons.mp h
  rw [List.mem_cons,not_or] at hb
  cases i with
  | zero=>exact List.nodup_cons.mpr ⟨hb.2,h2⟩
  | succ i=>
   refine List.nodup_cons.mpr ⟨fun q=>?_,ih hb.2 i h2⟩
   rcases List.mem_or_eq_of_mem_set q with q | q
   ·exact h1 q
   ·exact hb.1 q.symm
structure New (A:List Addr) (σ:Led) (F:List Addr):Prop where
 nd:A.Nodup
 own:∀ x∈A,x∉zab σ
 fr:∀ x∈A,x∉F
theorem New.one (h:a∉zab σ) (hF:a∉F):New [a] σ F:=⟨by simp,fun x hx=>by rw [List.mem_singleton.mp hx];exact h,fun x hx=>by rw [List.mem_singleton.mp hx];exact hF⟩
theorem New.step (h:New (L.map (·.1)) σ F) (hb:b∉zab (L++σ)) (hF:b∉F):New (b::L.map (·.1)) σ F:=by
 refine ⟨List.nodup_cons.mpr ⟨fun q=>?_,h.nd⟩,fun x hx=>?_,fun x hx=>?_⟩
 ·obtain ⟨p,hp,e⟩:=List.mem_map.mp q
  exact hb (mem_owned.mpr ⟨p.1,p.2,List.mem_append_left _ hp,e ▸ O.self _ _⟩)
 ·rcases List.mem_cons.mp hx with q | q
  ·rw [q];intro z
   obtain ⟨y,v,hm,hy⟩:=mem_owned.mp z
   exact hb (mem_owned.mpr ⟨y,v,List.mem_append_right _ hm,hy⟩)
  ·exact h.own x q
 ·rcases List.mem_cons.mp hx with q | q
  ·rw [q];exact hF
  ·exact h.fr x q
theorem New.rev (h:New A σ F):New A.reverse σ F:=⟨(List.reverse_perm A).nodup_iff.mpr h.nd,fun x hx=>h.own x (List.mem_reverse.mp hx),fun x hx=>h.fr x (List.mem_reverse.mp hx)⟩
theorem New.skip {x:Addr}:x∉L.map (·.1)->(L++σ).lookup x=σ.lookup x:=by
 induction L with
 | nil=>exact fun z1=>rfl
 | cons p r ih=>
  intro h
  rw [List.cons_append,List.lookup_cons,beq_eq_false_iff_ne.mpr fun (q:x=p.1)=>h (by rw [q];exact .head _)]
  exact ih fun q=>h (.tail _ q)
theorem New.all:(L.map (·.1)).Nodup->All L (L++σ):=by
 induction L with
 | nil=>exact fun z1 p hp=>absurd hp List.not_mem_nil
 | cons q r ih=>
  intro h p hp
  obtain ⟨h1,h2⟩:=List.nodup_cons.mp h
  rcases List.mem_cons.mp hp with e | e
  ·rw [e];exact zai
  ·exact zam (fun z=>h1 (List.mem_map.mpr ⟨p,e,z⟩)) (ih h2 p e)
theorem New.allR (h:(L.map (·.1)).Nodup):All L (L.reverse++σ):=fun p hp=>New.all (L:=L.reverse) (by rw [List.map_reverse];exact (List.reverse_perm _).nodup_iff.mpr h) p (List.mem_reverse.mpr hp)
end
structure znq (k:Base) (C:Addr) (f:Str->Value):Prop where
 fld:∀ x∈(["day","lots","lines","gave","wasted","came"]:List Str),zii k C x
 meth:∀ x∈(["receive","order","cancel","plan","throw","deal","go_to","there","open_lines"]:List Str),znp k C x (f x)
 new:∃ N mN fI oI,Cls k C N mN/\mN "__init__"=some (.ref fI)/\f "__init__"=.ref fI/\k.h0.get? fI=some oI/\oI.cls=.type "function"
 cls:k.mg "House"=some (.ref C)
 f_init:FnV k (f "__init__") 1 zl4
 f_receive:FnV k (f "receive") 4 zhc
 f_order:FnV k (f "order") 5 zkl
 f_cancel:FnV k (f "cancel") 2 ziz
 f_plan:FnV k (f "plan") 1 zl3
 f_throw:FnV k (f "throw") 2 zkj
 f_deal:FnV k (f "deal") 2 zl5
 f_go_to:FnV k (f "go_to") 2 zkm
 f_there:FnV k (f "there") 1 zkk
 f_open_lines:FnV k (f "open_lines") 1 zer
 hd:k.hd=true
 things:za5 k
 best:FnT k "best" 2 ztk
structure HA where
 a:Addr
 C:Addr
 dd:Addr
 l:Addr
 n:Addr
 g:Addr
 w:Addr
 m:Addr
structure HS where
 day:Int
 lots:List (Int × Lot)
 lines:List (Int × Line)
 gave:List Int
 wasted:List Int
 came:List Int
noncomputable def HA.fs (H:HA) (day:Int):List (Str × V):=[("day",.int day),("lots",.ref H.l),("lines",.ref H.n),("gave",.ref H.g),("wasted",.ref H.w),("came",.ref H.m)]
noncomputable def HA.parts (H:HA):List Addr:=[H.a,H.l,H.n,H.g,H.w,H.m]
theorem HA.pa {H:HA}:H.a∈H.parts:=.head _
theorem HA.pl {H:HA}:H.l∈H.parts:=.tail _ (.head _)
theorem HA.pn {H:HA}:H.n∈H.parts:=.tail _ (.tail _ (.head _))
theorem HA.pg {H:HA}:H.g∈H.parts:=.tail _ (.tail _ (.tail _ (.head _)))
theorem HA.pw {H:HA}:H.w∈H.parts:=.tail _ (.tail _ (.tail _ (.tail _ (.head _))))
theorem HA.pm {H:HA}:H.m∈H.parts:=.tail _ (.tail _ (.tail _ (.tail _ (.tail _ (.head _)))))
noncomputable def zeb (l:List (Int × Lot)):List (Int × V):=l.map fun p=>(p.1,p.2.v)
noncomputable def zbf (l:List (Int × Line)):List (Int × V):=l.map fun p=>(p.1,p.2.v)
noncomputable def HA.objs (H:HA) (S:HS):Led:=[(H.a,.inst H.C H.dd (H.fs S.day)),(H.l,.dictI (zeb S.lots)),(H.n,.dictI (zbf S.lines)),(H.g,.list (S.gave.map .int)),(H.w,.list (S.wasted.map .int)),(H.m,.list (S.came.map .int))]
structure Hs (k:Base) (f:Str->Value) (H:HA) (S:HS) (σ:Led):Prop where
 K:znq k H.C f
 nd:H.parts.Nodup
 all:All (H.objs S) σ
def HA.free (H:HA) (F:List Addr):Prop:=H.dd∉F/\∀ b∈H.parts,b∉F
def Oth (H:HA) (σ σ':Led):Prop:=∀ b,b∉H.parts->σ'.lookup b=σ.lookup b
theorem Oth.refl {H:HA}:Oth H σ σ:=fun z1 z2=>rfl
theorem Oth.trans {H:HA} {σ₁ σ₂ σ₃:Led} (x:Oth H σ₁ σ₂) (y:Oth H σ₂ σ₃):Oth H σ₁ σ₃:=fun b hb=>(y b hb).trans (x b hb)
theorem Oth.upd {H:HA} {a:Addr} {o o':O} (ha:a∈H.parts) (h:σ.lookup a=some o):Oth H σ (upd a o' σ):=fun b hb=>by
 rw [zbb h,if_neg (show b≠a from fun q=>hb (by rw [q];exact ha))]
section
variable {k:Base} {f:Str->Value} {H:HA} {S:HS}
theorem Hs.a (h:Hs k f H S σ):σ.lookup H.a=some (.inst H.C H.dd (H.fs S.day)):=h.all (H.a,_) (.head _)
theorem Hs.l (h:Hs k f H S σ):σ.lookup H.l=some (.dictI (zeb S.lots)):=h.all (H.l,_) (.tail _ (.head _))
theorem Hs.n (h:Hs k f H S σ):σ.lookup H.n=some (.dictI (zbf S.lines)):=h.all (H.n,_) (.tail _ (.tail _ (.head _)))
theorem Hs.g (h:Hs k f H S σ):σ.lookup H.g=some (.list (S.gave.map .int)):=h.all (H.g,_) (.tail _ (.tail _ (.tail _ (.head _))))
theorem Hs.w (h:Hs k f H S σ):σ.lookup H.w=some (.list (S.wasted.map .int)):=h.all (H.w,_) (.tail _ (.tail _ (.tail _ (.tail _ (.head _)))))
theorem Hs.m (h:Hs k f H S σ):σ.lookup H.m=some (.list (S.came.map .int)):=h.all (H.m,_) (.tail _ (.tail _ (.tail _ (.tail _ (.tail _ (.head _))))))
theorem Hs.of {σ':Led} (h:Hs k f H S σ) (key:∀ x∈H.parts,∀ z,σ.lookup x=some z->σ'.lookup x=some z):Hs k f H S σ':=⟨h.K,h.nd,h.all.of key⟩
theorem Hs.cons {b:Addr} {o:O} (h:Hs k f H S σ) (hb:b∉zab σ):Hs k f H S ((b,o)::σ):=h.of fun z1 z2 z3 e=>zam (za2 e hb) e
theorem Hs.notin {b:Addr} (h:Hs k f H S σ) (hb:b∉zab σ):b∉H.parts:=h.all.notin hb
theorem Hs.other {b:Addr} {o o':O} (h:Hs k f H S σ) (hb:b∉H.parts) (hl:σ.lookup b=some o'):Hs k f H S (upd b o σ):=h.of fun x hx z e=>by
 rw [zbb hl,if_neg (show x≠b from fun q=>hb (q ▸ hx))];exact e
theorem Hs.up {S':HS} {a:Addr} {o o':O} (i:Nat) (h:Hs k f H S σ) (hi:(H.objs S)[i]?=some (a,o')) (e:H.objs S'=(H.objs S).set i (a,o)):Hs k f H S' (upd a o σ):=⟨h.K,h.nd,e ▸ h.all.put h.nd i hi⟩
theorem Hs.up_a {day:Int} (h:Hs k f H S σ):Hs k f H { S with day:=day } (upd H.a (.inst H.C H.dd (H.fs day)) σ):=h.up 0 rfl rfl
theorem Hs.up_l {L:List (Int × Lot)} (h:Hs k f H S σ):Hs k f H { S with lots:=L } (upd H.l (.dictI (zeb L)) σ):=h.up 1 rfl rfl
theorem Hs.up_n {L:List (Int × Line)} (h:Hs k f H S σ):Hs k f H { S with lines:=L } (upd H.n (.dictI (zbf L)) σ):=h.up 2 rfl rfl
theorem Hs.up_g {L:List Int} (h:Hs k f H S σ):Hs k f H { S with gave:=L } (upd H.g (.list (L.map .int)) σ):=h.up 3 rfl rfl
theorem Hs.up_w {L:List Int} (h:Hs k f H S σ):Hs k f H { S with wasted:=L } (upd H.w (.list (L.map .int)) σ):=h.up 4 rfl rfl
theorem Hs.up_m {L:List Int} (h:Hs k f H S σ):Hs k f H { S with came:=L } (upd H.m (.list (L.map .int)) σ):=h.up 5 rfl rfl
theorem Oth.new {σ':Led} (n:∀ x∈H.parts,x∉zab σ) (o:Oth H σ σ'):∀ x v,σ.lookup x=some v->σ'.lookup x=some v:=fun x v e=>(o x fun q=>n x q (zbn e)).trans e
theorem z43 (h:Hs k f H S σ) (hk:c.k=k):Fld c σ (.ref H.a) "day" (.int S.day):=⟨_,_,_,_,rfl,h.a,hk ▸ h.K.fld _ (List.contains_iff_mem.mp rfl),rfl,fun z1 q=>V.noConfusion q⟩
theorem z1v (h:Hs k f H S σ) (hk:c.k=k):Fld c σ (.ref H.a) "lots" (.ref H.l):=⟨_,_,_,_,rfl,h.a,hk ▸ h.K.fld _ (List.contains_iff_mem.mp rfl),rfl,fun z1 q=>V.noConfusion q⟩
theorem zyf (h:Hs k f H S σ) (hk:c.k=k):Fld c σ (.ref H.a) "lines" (.ref H.n):=⟨_,_,_,_,rfl,h.a,hk ▸ h.K.fld _ (List.contains_iff_mem.mp rfl),rfl,fun z1 q=>V.noConfusion q⟩
theorem z1w (h:Hs k f H S σ) (hk:c.k=k):Fld c σ (.ref H.a) "gave" (.ref H.g):=⟨_,_,_,_,rfl,h.a,hk ▸ h.K.fld _ (List.contains_iff_mem.mp rfl),rfl,fun z1 q=>V.noConfusion q⟩
theorem zvk (h:Hs k f H S σ) (hk:c.k=k):Fld c σ (.ref H.a) "wasted" (.ref H.w):=⟨_,_,_,_,rfl,h.a,hk ▸ h.K.fld _ (List.contains_iff_mem.mp rfl),rfl,fun z1 q=>V.noConfusion q⟩
theorem z1x (h:Hs k f H S σ) (hk:c.k=k):Fld c σ (.ref H.a) "came" (.ref H.m):=⟨_,_,_,_,rfl,h.a,hk ▸ h.K.fld _ (List.contains_iff_mem.mp rfl),rfl,fun z1 q=>V.noConfusion q⟩
theorem mth {x:Str} (h:Hs k f H S σ) (hk:c.k=k) (hx:(["receive","order","cancel","plan","throw","deal","go_to","there","open_lines"]:List Str).contains x=true) (hn:(H.fs S.day).lookup x=none):zwp c σ (.ref H.a) x (f x):=⟨_,_,_,_,rfl,h.a,hk ▸ h.K.meth _ (List.contains_iff_mem.mp hx),hn⟩
theorem z4z {Q:V->Led->Prop} (h:Hs k f H S σ) (hk:c.k=k) (h2:Q (.int S.day) σ):zpn c "day" Q (.ref H.a) σ:=⟨_,z43 h hk,h2⟩
theorem z1s {Q:V->Led->Prop} (h:Hs k f H S σ) (hk:c.k=k) (h2:Q (.ref H.l) σ):zpn c "lots" Q (.ref H.a) σ:=⟨_,z1v h hk,h2⟩
theorem zyb {Q:V->Led->Prop} (h:Hs k f H S σ) (hk:c.k=k) (h2:Q (.ref H.n) σ):zpn c "lines" Q (.ref H.a) σ:=⟨_,zyf h hk,h2⟩
theorem z1t {Q:V->Led->Prop} (h:Hs k f H S σ) (hk:c.k=k) (h2:Q (.ref H.g) σ):zpn c "gave" Q (.ref H.a) σ:=⟨_,z1w h hk,h2⟩
theorem zvg {Q:V->Led->Prop} (h:Hs k f H S σ) (hk:c.k=k) (h2:Q (.ref H.w) σ):zpn c "wasted" Q (.ref H.a) σ:=⟨_,zvk h hk,h2⟩
theorem z1u {Q:V->Led->Prop} (h:Hs k f H S σ) (hk:c.k=k) (h2:Q (.ref H.m) σ):zpn c "came" Q (.ref H.a) σ:=⟨_,z1x h hk,h2⟩
end
local macro_rules | `(tactic| walk_at "h")=>`(tactic| first
 | walk_at "x"
 | ((with_reducible apply z1s);(assumption);(rfl))
 | ((with_reducible apply zyb);(assumption);(rfl))
 | ((with_reducible apply z1t);(assumption);(rfl))
 | ((with_reducible apply z1u);(assumption);(rfl))
 | ((with_reducible apply zvg);(assumption);(rfl))
 | ((with_reducible apply z4z);(assumption);(rfl)))
local macro_rules | `(tactic| walk_at "H")=>`(tactic| repeat' walk_at "h")
structure HS.Ok (S:HS):Prop where
 day0:0<=S.day
 day1:S.day<=1000000000000
 lot:∀ p∈S.lots,p.2.ok/\0<=p.1/\p.1<S.gave.length
 line:∀ p∈S.lines,p.2.ok/\0<=p.1/\p.1<S.came.length
 lotK:(S.lots.map (·.1)).Pairwise fun a b=>a<b
 lineK:(S.lines.map (·.1)).Pairwise fun a b=>a<b
 len:S.wasted.length=S.gave.length
 g:S.gave.length<=1000
 c:S.came.length<=1000
 nl:S.lots.length<=100
 nn:S.lines.length<=100
theorem zux {n:Nat} (h:n<=100):n<Tim.sortLid:=Nat.lt_of_le_of_lt h (by decide)
theorem HS.Ok.ndl {S:HS} (o:S.Ok):(S.lots.map (·.1)).Nodup:=o.lotK.imp fun q e=>by rw [e] at q;exact Int.lt_irrefl _ q
theorem HS.Ok.ndn {S:HS} (o:S.Ok):(S.lines.map (·.1)).Nodup:=o.lineK.imp fun q e=>by rw [e] at q;exact Int.lt_irrefl _ q
noncomputable def zak (p:Int × Lot):V:=.tup [.int p.1,.str p.2.w,.int p.2.last,.int p.2.n]
noncomputable def zac (p:Int × Line):V:=.tup [.int p.1,.str p.2.w,.int p.2.day,.int p.2.left,.int p.2.n]
section
variable {f:Str->Value} {H:HA} {S:HS}
theorem zcx (hh:c.k.hd=true) (hH:Hs c.k f H S σ) (hk:(S.lots.map (·.1)).Pairwise fun a b=>a<b) (hz:S.lots.length<=100) (h:P (.lst (S.lots.map fun p=>.int p.1)) σ):CallS c d (.builtin "sorted") [.ref H.l] σ P X:=by
 refine zcv hh hH.l (by rw [zeb,List.length_map];exact zux hz) fun ys hp hs=>?_
 have e:(zeb S.lots).map (·.1)=S.lots.map (·.1):=by rw [zeb,List.map_map];rfl
 rw [e] at hs
 rw [hs (hk.imp Int.le_of_lt),List.map_map]
 exact h
theorem zda (hh:c.k.hd=true) (hH:Hs c.k f H S σ) (hk:(S.lines.map (·.1)).Pairwise fun a b=>a<b) (hz:S.lines.length<=100) (h:P (.lst (S.lines.map fun p=>.int p.1)) σ):CallS c d (.builtin "sorted") [.ref H.n] σ P X:=by
 refine zcv hh hH.n (by rw [zbf,List.length_map];exact zux hz) fun ys hp hs=>?_
 have e:(zbf S.lines).map (·.1)=S.lines.map (·.1):=by rw [zbf,List.map_map];rfl
 rw [e] at hs
 rw [hs (hk.imp Int.le_of_lt),List.map_map]
 exact h
theorem zdm {p:Int × Lot} (hH:Hs c.k f H S σ) (hn:(S.lots.map (·.1)).Nodup) (hp:p∈S.lots) (h:P p.2.v σ):zln c d (.ref H.l) (.int p.1) σ P:=
 ze8 hH.l (by rw [zeb,zbh,zbe hn hp];rfl) h
theorem zcu {p:Int × Line} (hH:Hs c.k f H S σ) (hn:(S.lines.map (·.1)).Nodup) (hp:p∈S.lines) (h:P p.2.v σ):zln c d (.ref H.n) (.int p.1) σ P:=
 ze8 hH.n (by rw [zbf,zbh,zbe hn hp];rfl) h
theorem Hs.hd (h:Hs c.k f H S σ):c.k.hd=true:=h.K.hd
theorem zo5 (hH:Hs c.k f H S σ) (ok:S.Ok) (h:∀ a,a∉zab σ->a∉c.F->P (.ref a) ((a,.list (S.lots.map zak))::σ)):CallS c (d+1) (f "there") [.ref H.a] σ P X:=by
 refine zax hH.K.f_there ?_
 walk_at "H"
 refine zcx hH.hd hH ok.lotK ok.nl ?_
 walk_at "H"
 refine ⟨_,[],by simp,zau,fun D=>?_⟩
 refine zaz (fun p:Int × Lot=>.int p.1) zak S.lots [] (fun p hp=>⟨_,rfl,?_⟩) ?_
 ·walk_at "H"
  refine zdm (c:=(c.pro []).hide D) hH ok.ndl hp ?_
  walk_at "H"
  exact zpa (by simp) (by simp) (by simp) ⟨rfl,rfl⟩
 exact zjv fun a ha hF=>zas (h a ha hF)
theorem zgi (hH:Hs c.k f H S σ) (ok:S.Ok) (h:∀ a,a∉zab σ->a∉c.F->P (.ref a) ((a,.list (S.lines.map zac))::σ)):CallS c (d+1) (f "open_lines") [.ref H.a] σ P X:=by
 refine zax hH.K.f_open_lines ?_
 walk_at "H"
 refine zda hH.hd hH ok.lineK ok.nn ?_
 walk_at "H"
 refine ⟨_,[],by simp,zau,fun D=>?_⟩
 refine zaz (fun p:Int × Line=>.int p.1) zac S.lines [] (fun p hp=>⟨_,rfl,?_⟩) ?_
 ·walk_at "H"
  refine zcu (c:=(c.pro []).hide D) hH ok.ndn hp ?_
  walk_at "H"
  exact zpa (by simp) (by simp) (by simp) ⟨rfl,rfl⟩
 exact zjv fun a ha hF=>zas (h a ha hF)
end
theorem zxm {x:Str} {v:V} {fs:List (Str × V)} (h:fs.lookup x=none):z08 x v fs=fs++[(x,v)]:=by
 induction fs with
 | nil=>rfl
 | cons p r ih=>
  rw [show p=(p.1,p.2) from rfl,List.lookup_cons] at h
  cases q:x == p.1 with
  | true=>rw [q] at h;cases h
  | false=>
   rw [q] at h
   rw [show p=(p.1,p.2) from rfl]
   unfold z08
   rw [if_neg fun (e:p.1=x)=>by rw [e,beq_self_eq_true] at q;cases q]
   exact congrArg _ (ih h)
theorem zs9 {a:Addr} {o x:O} {τ:Led}:∀ {pre:Led},(∀ p∈pre,p.1≠a)->upd a o (pre++(a,x)::τ)=pre++(a,o)::τ
 | [],_=>zb4
 | p::r,h=>by
  rw [List.cons_append,zc7 (h p (.head _)),zs9 fun q hq=>h q (.tail _ hq)];rfl
theorem zjw {a:Addr} {x:O} {τ:Led}:∀ {pre:Led},(∀ p∈pre,p.1≠a)->(pre++(a,x)::τ).lookup a=some x
 | [],_=>zai
 | p::r,h=>zam (h p (.head _)).symm (zjw fun q hq=>h q (.tail _ hq))
theorem zdu {a C dd:Addr} {fs:List (Str × V)} {x:Str} {v:V} {K:Led->Prop} {pre:Led} (hp:(pre.map (·.1)++[a]).Nodup) (hF:dd∉c.F) (hx:zii c.k C x) (hsz:fs.length<=1000) (hn:fs.lookup x=none) (h:K (pre++(a,.inst C dd (fs++[(x,v)]))::σ)) :
  zv8 c d (.ref a) x v (pre++(a,.inst C dd fs)::σ) K:=by
 have hp:∀ p∈pre,p.1≠a:=fun p q e=>(List.nodup_append.mp hp).2.2 p.1 (List.mem_map_of_mem q) a (.head _) e
 exact zq9 (zjw hp) hF hx hsz (by rw [zs9 hp,zxm hn];exact h)
section
variable {f:Str->Value} {C:Addr}
theorem z8d (K:znq c.k C f) (h:∀ (H:HA) (σ':Led),(∀ x∈H.parts,x∉zab σ)->H.free c.F->Hs c.k f H ⟨0,[],[],[],[],[]⟩ σ'->Oth H σ σ'->P (.ref H.a) σ'):CallN c (d+2) "House" [] σ P X:=by
 obtain ⟨N,mN,fI,oI,hc,k1,k2,k3,k4⟩:=K.new
 refine ⟨_,K.cls,zz2 hc k1 k3 k4 fun a dd ha hdd haF hdF hne=>?_⟩
 have n0:New [a] σ c.F:=.one ha haF
 clear ha haF hdd hne
 rw [← k2]
 refine zax K.f_init ?_
 walk_at "X"
 refine zdu (pre:=[]) (fs:=[]) n0.nd hdF (K.fld _ (by simp)) (by simp) rfl ?_
 walk_at "X"
 intro l hl hlF
 have n1:=n0.step (L:=[(a,_)]) hl hlF
 walk_at "X"
 refine zdu (pre:=[(l,.dictI [])]) n1.nd hdF (K.fld _ (by simp)) (by simp) rfl ?_
 walk_at "X"
 intro n hn hnF
 have n2:=n1.step (L:=[(l,_),(a,_)]) hn hnF
 walk_at "X"
 refine zdu (pre:=[(n,.dictI []),(l,.dictI [])]) n2.nd hdF (K.fld _ (by simp)) (by simp) rfl ?_
 walk_at "X"
 intro g hg hgF
 have n3:=n2.step (L:=[(n,_),(l,_),(a,_)]) hg hgF
 walk_at "X"
 refine zdu (pre:=[(g,.list []),(n,.dictI []),(l,.dictI [])]) n3.nd hdF (K.fld _ (by simp)) (by simp) rfl ?_
 walk_at "X"
 intro w hw hwF
 have n4:=n3.step (L:=[(g,_),(n,_),(l,_),(a,_)]) hw hwF
 walk_at "X"
 refine zdu (pre:=[(w,.list []),(g,.list []),(n,.dictI []),(l,.dictI [])]) n4.nd hdF (K.fld _ (by simp)) (by simp) rfl ?_
 walk_at "X"
 intro m hm hmF
 have n5:=n4.step (L:=[(w,_),(g,_),(n,_),(l,_),(a,_)]) hm hmF
 clear hl hlF n0 hn hnF n1 hg hgF n2 hw hwF n3 hm hmF n4
 walk_at "X"
 refine zdu (pre:=[(m,.list []),(w,.list []),(g,.list []),(n,.dictI []),(l,.dictI [])]) n5.nd hdF (K.fld _ (by simp)) (by simp) rfl ?_
 change Ret (fun v σ'=>v=.none/\P (.ref a) σ') .next [] _
 refine zgy ⟨rfl,?_⟩
 have n6:New (HA.parts ⟨a,C,dd,l,n,g,w,m⟩) σ c.F:=n5.rev
 exact h ⟨a,C,dd,l,n,g,w,m⟩ _ n6.own ⟨hdF,n6.fr⟩ ⟨K,n6.nd,New.allR n6.nd⟩ fun x hx=>New.skip (L:=(HA.objs ⟨a,C,dd,l,n,g,w,m⟩ ⟨0,[],[],[],[],[]⟩).reverse) fun q=>hx (List.mem_reverse.mp q)
end
theorem zp3 {α:Type} {i:Int} {x:α} {l:List (Int × α)} (h:∀ p∈l,p.1≠i):z0a i x l=l++[(i,x)]:=by
 unfold z0a
 rw [if_neg]
 rw [List.any_eq_true]
 rintro ⟨p,hp,e⟩
 exact h p hp (by simpa using e)
section
variable {f:Str->Value} {H:HA} {S:HS}
noncomputable def HS.receive (S:HS) (l:Lot):HS:={ S with lots:=S.lots++[((S.gave.length:Int),l)],gave:=S.gave++[0],wasted:=S.wasted++[0] }
noncomputable def HS.order (S:HS) (l:Line):HS:={ S with lines:=S.lines++[((S.came.length:Int),l)],came:=S.came++[0] }
noncomputable def HS.cancel (S:HS) (i:Int):HS:={ S with lines:=S.lines.filter fun p=>decide (p.1≠i) }
theorem zma {α:Type} {l:List (Int × α)} {n:Nat} {x:α} (h:(l.map (·.1)).Pairwise fun a b=>a<b) (hb:∀ p∈l,p.1<n):((l++[((n:Int),x)]).map (·.1)).Pairwise fun a b=>a<b:=by
 rw [List.map_append,List.pairwise_append]
 refine ⟨h,by simp,fun a ha b hb'=>?_⟩
 obtain ⟨p,hp,rfl⟩:=List.mem_map.mp ha
 simp only [List.map_cons,List.map_nil,List.mem_singleton] at hb'
 rw [hb'];exact hb p hp
theorem HS.Ok.receive {S:HS} (o:S.Ok) {l:Lot} (hl:l.ok) (hn:S.gave.length<1000) (hz:S.lots.length<100):(S.receive l).Ok:=by
 refine ⟨o.day0,o.day1,fun p hp=>?_,o.line,zma o.lotK fun p hp=>(o.lot p hp).2.2,o.lineK,?_,?_,o.c,?_,o.nn⟩
 ·show _/\_/\p.1<((S.gave++[0]).length:Nat)
  rw [List.length_append]
  rcases List.mem_append.mp hp with q | q
  ·have:=o.lot p q
   exact ⟨this.1,this.2.1,by have:=this.2.2;simp;(exact Ar.l11 (.ilt (.v 0) (.a (.c (.v 0)) (.k 1))) [(.ilt (.v 0) (.c (.v 0)))] (by kernel_rfl) this)⟩
  ·rw [List.mem_singleton.mp q]
   exact ⟨hl,by lia,by simp;(exact Ar.l01 (.ilt (.c (.v 0)) (.a (.c (.v 0)) (.k 1))) [] (by kernel_rfl) )⟩
 ·show (S.wasted++[0]).length=(S.gave++[0]).length
  rw [List.length_append,List.length_append,o.len]
 ·show (S.gave++[0]).length<=1000
  rw [List.length_append];exact hn
 ·show (S.lots++[_]).length<=100
  rw [List.length_append];exact hz
theorem HS.Ok.order {S:HS} (o:S.Ok) {l:Line} (hl:l.ok) (hn:S.came.length<1000) (hz:S.lines.length<100):(S.order l).Ok:=by
 refine ⟨o.day0,o.day1,o.lot,fun p hp=>?_,o.lotK,zma o.lineK fun p hp=>(o.line p hp).2.2,o.len,o.g,?_,o.nl,?_⟩
 ·show _/\_/\p.1<((S.came++[0]).length:Nat)
  rw [List.length_append]
  rcases List.mem_append.mp hp with q | q
  ·have:=o.line p q
   exact ⟨this.1,this.2.1,by have:=this.2.2;simp;(exact Ar.l11 (.ilt (.v 0) (.a (.c (.v 0)) (.k 1))) [(.ilt (.v 0) (.c (.v 0)))] (by kernel_rfl) this)⟩
  ·rw [List.mem_singleton.mp q]
   exact ⟨hl,by lia,by simp;(exact Ar.l01 (.ilt (.c (.v 0)) (.a (.c (.v 0)) (.k 1))) [] (by kernel_rfl) )⟩
 ·show (S.came++[0]).length<=1000
  rw [List.length_append];exact hn
 ·show (S.lines++[_]).length<=100
  rw [List.length_append];exact hz
theorem HS.Ok.cancel {S:HS} (o:S.Ok) (i:Int):(S.cancel i).Ok:=
 ⟨o.day0,o.day1,o.lot,fun p hp=>o.line p (List.mem_filter.mp hp).1,o.lotK,o.lineK.sublist (List.filter_sublist.map _),o.len,o.g,o.c,o.nl,Nat.le_trans (List.length_filter_le _ _) o.nn⟩
theorem HA.free.l (hF:H.free c.F):H.l∉c.F:=hF.2 _ HA.pl
theorem HA.free.n (hF:H.free c.F):H.n∉c.F:=hF.2 _ HA.pn
theorem HA.free.g (hF:H.free c.F):H.g∉c.F:=hF.2 _ HA.pg
theorem HA.free.w (hF:H.free c.F):H.w∉c.F:=hF.2 _ HA.pw
theorem HA.free.m (hF:H.free c.F):H.m∉c.F:=hF.2 _ HA.pm
theorem zq8 {i:Int} {l:Lot} {K:Led->Prop} (hH:Hs c.k f H S σ) (hF:H.free c.F) (hz:S.lots.length<=1000) (h:∀ σ',Hs c.k f H { S with lots:=z0a i l S.lots } σ'->Oth H σ σ'->K σ'):zei c d (.ref H.l) (.int i) l.v σ K:=by
 refine zdv DK.int hH.l hF.l (by rw [zeb,List.length_map];exact hz) ?_
 rw [zeb,zp2 Lot.v]
 exact h _ hH.up_l (.upd HA.pl hH.l)
theorem zv7 {i:Int} {l:Line} {K:Led->Prop} (hH:Hs c.k f H S σ) (hF:H.free c.F) (hz:S.lines.length<=1000) (h:∀ σ',Hs c.k f H { S with lines:=z0a i l S.lines } σ'->Oth H σ σ'->K σ'):zei c d (.ref H.n) (.int i) l.v σ K:=by
 refine zdv DK.int hH.n hF.n (by rw [zbf,List.length_map];exact hz) ?_
 rw [zbf,zp2 Line.v]
 exact h _ hH.up_n (.upd HA.pn hH.n)
theorem zz6 {i:Int} (hH:Hs c.k f H S σ) (hF:H.free c.F) (hz:S.gave.length<=1000) (h:∀ σ',Hs c.k f H { S with gave:=S.gave++[i] } σ'->Oth H σ σ'->P .none σ'):CallS c d (.builtin "list.append") [.ref H.g,.int i] σ P X:=by
 refine zba hH.g hF.g (by rw [List.length_map];(exact Ar.l01 (.lt (.v 0) (.k 16777216)) [(.le (.v 0) (.k 1000))] (by kernel_rfl) hz)) ?_
 rw [show S.gave.map V.int++[.int i]=(S.gave++[i]).map V.int by simp]
 exact h _ hH.up_g (.upd HA.pg hH.g)
theorem zs1 {i:Int} (hH:Hs c.k f H S σ) (hF:H.free c.F) (hz:S.wasted.length<=1000) (h:∀ σ',Hs c.k f H { S with wasted:=S.wasted++[i] } σ'->Oth H σ σ'->P .none σ'):CallS c d (.builtin "list.append") [.ref H.w,.int i] σ P X:=by
 refine zba hH.w hF.w (by rw [List.length_map];(exact Ar.l01 (.lt (.v 0) (.k 16777216)) [(.le (.v 0) (.k 1000))] (by kernel_rfl) hz)) ?_
 rw [show S.wasted.map V.int++[.int i]=(S.wasted++[i]).map V.int by simp]
 exact h _ hH.up_w (.upd HA.pw hH.w)
theorem zz7 {i:Int} (hH:Hs c.k f H S σ) (hF:H.free c.F) (hz:S.came.length<=1000) (h:∀ σ',Hs c.k f H { S with came:=S.came++[i] } σ'->Oth H σ σ'->P .none σ'):CallS c d (.builtin "list.append") [.ref H.m,.int i] σ P X:=by
 refine zba hH.m hF.m (by rw [List.length_map];(exact Ar.l01 (.lt (.v 0) (.k 16777216)) [(.le (.v 0) (.k 1000))] (by kernel_rfl) hz)) ?_
 rw [show S.came.map V.int++[.int i]=(S.came++[i]).map V.int by simp]
 exact h _ hH.up_m (.upd HA.pm hH.m)
theorem zm7 {p:Int × Line} (hH:Hs c.k f H S σ) (hF:H.free c.F) (ok:(S.lines.map (·.1)).Nodup) (hz:S.lines.length<=1000) (hp:p∈S.lines) (h:∀ σ',Hs c.k f H (S.cancel p.1) σ'->Oth H σ σ'->P p.2.v σ'):CallS c d (.builtin "dict.pop") [.ref H.n,.int p.1] σ P X:=by
 refine znu hH.n hF.n (by rw [zbf,List.length_map];exact hz) (by rw [zbf,zbh,zbe ok hp];rfl) ?_
 rw [zbf,zm0 Line.v]
 exact h _ hH.up_n (.upd HA.pn hH.n)
theorem zrb {p:Int × Lot} (hH:Hs c.k f H S σ) (hF:H.free c.F) (ok:(S.lots.map (·.1)).Nodup) (hz:S.lots.length<=1000) (hp:p∈S.lots) (h:∀ σ',Hs c.k f H { S with lots:=S.lots.filter fun q=>decide (q.1≠p.1) } σ'->Oth H σ σ'->P p.2.v σ'):CallS c d (.builtin "dict.pop") [.ref H.l,.int p.1] σ P X:=by
 refine znu hH.l hF.l (by rw [zeb,List.length_map];exact hz) (by rw [zeb,zbh,zbe ok hp];rfl) ?_
 rw [zeb,zm0 Lot.v]
 exact h _ hH.up_l (.upd HA.pl hH.l)
theorem z16 {α:Type} {v:α->V} {l:List (Int × α)} {p:Int × α} (hp:p∈l):((l.map fun p=>(p.1,v p.2)).any fun kv=>decide (kv.1=p.1))=true:=by
 rw [List.any_map,List.any_eq_true]
 exact ⟨p,hp,by simp⟩
end
noncomputable abbrev zek:=Int × Int × Int
noncomputable def z36 (x:zek):V:=.tup [.int x.1,.int x.2.1,.int x.2.2]
noncomputable def HS.num (S:HS) (x:Deal.Row):zek:=((S.lines.map (·.1)).getD x.1 0,(S.lots.map (·.1)).getD x.2.1 0,x.2.2)
structure PlanOf (S:HS) (R:List zek):Prop where
 ex:∃ D:List Deal.Row,Fit (S.lots.map (·.2)) S.lines.length D/\R=D.map S.num
section
variable {f:Str->Value} {H:HA} {S:HS}
theorem zrf {l:List Int} {i:Nat} (h:i<l.length) (k:P (.int (l.getD i 0)) σ):zln c d (.lst (l.map V.int)) (.int i) σ P:=zf6 (f:=V.int) 0 h k
theorem z5p (hH:Hs c.k f H S σ) (ok:S.Ok) (h:∀ R,PlanOf S R->P (.lst (R.map z36)) σ):CallS c (d+6) (f "plan") [.ref H.a] σ P X:=by
 have h1:∀ l∈S.lots.map (·.2),l.ok:=fun l hl=>by obtain ⟨p,hp,rfl⟩:=List.mem_map.mp hl;exact (ok.lot p hp).1
 have h2:∀ l∈S.lines.map (·.2),l.ok:=fun l hl=>by obtain ⟨p,hp,rfl⟩:=List.mem_map.mp hl;exact (ok.line p hp).1
 refine zax hH.K.f_plan ?_
 walk_at "H"
 refine zcx hH.hd hH ok.lotK ok.nl ?_
 walk_at "H"
 refine zda hH.hd hH ok.lineK ok.nn ?_
 walk_at "H"
 refine ⟨_,[],by simp,zau,fun D=>?_⟩
 refine zaz (fun p:Int × Lot=>.int p.1) (fun p=>p.2.v) S.lots [] (fun p hp=>⟨_,rfl,?_⟩) ?_
 ·walk_at "H"
  refine zdm (c:=(c.pro []).hide D) hH ok.ndl hp ⟨rfl,rfl⟩
 refine zcj ?_
 walk_at "H"
 refine ⟨_,[],by simp,zau,fun D=>?_⟩
 refine zaz (fun p:Int × Line=>.int p.1) (fun p=>p.2.v) S.lines [] (fun p hp=>⟨_,rfl,?_⟩) ?_
 ·walk_at "H"
  refine zcu (c:=(c.pro []).hide D) hH ok.ndn hp ⟨rfl,rfl⟩
 refine zcj ?_
 walk_at "H"
 rw [List.nil_append,List.nil_append,show (S.lots.map fun p=>p.2.v)=(S.lots.map (·.2)).map Lot.v by rw [List.map_map];rfl,show (S.lines.map fun p=>p.2.v)=(S.lines.map (·.2)).map Line.v by rw [List.map_map];rfl]
 refine z5u hH.K.things h1 h2 (by rw [List.length_map];exact ok.nl) (by rw [List.length_map];exact ok.nn) hH.K.best fun D hD=>?_
 rw [List.length_map] at hD
 walk_at "H"
 have hrow:∀ x∈D,x.1<S.lines.length/\x.2.1<S.lots.length:=fun x hx=>by
  have:=hD.row x hx
  rw [List.length_map] at this
  exact ⟨this.1,this.2.1⟩
 refine ⟨_,[],by simp,zau,fun E=>?_⟩
 rw [show (S.lots.map fun p=>V.int p.1)=(S.lots.map (·.1)).map V.int by rw [List.map_map];rfl,show (S.lines.map fun p=>V.int p.1)=(S.lines.map (·.1)).map V.int by rw [List.map_map];rfl]
 refine zaz z3z (fun x=>z36 (S.num x)) D [] (fun x hx=>⟨_,rfl,?_⟩) ?_
 ·walk_at "H"
  refine zrf (by rw [List.length_map];exact (hrow x hx).1) ?_
  walk_at "H"
  refine zrf (by rw [List.length_map];exact (hrow x hx).2) ?_
  walk_at "H"
  exact ⟨rfl,rfl⟩
 rw [List.nil_append,show (D.map fun x=>z36 (S.num x))=(D.map S.num).map z36 by rw [List.map_map];rfl]
 exact zcj (zas (h _ ⟨D,hD,rfl⟩))
end
section
variable {f:Str->Value} {H:HA} {S:HS}
theorem zsn {i v:Int} {K:Led->Prop} (hH:Hs c.k f H S σ) (hF:H.free c.F) (h0:0<=i) (hi:i.toNat<S.wasted.length) (h:∀ σ',Hs c.k f H { S with wasted:=S.wasted.set i.toNat v } σ'->Oth H σ σ'->K σ'):zei c d (.ref H.w) (.int i) (.int v) σ K:=by
 refine zdt hH.w hF.w h0 (by rw [List.length_map];exact hi) ?_
 rw [← List.map_set]
 exact h _ hH.up_w (.upd HA.pw hH.w)
theorem zze {i v:Int} {K:Led->Prop} (hH:Hs c.k f H S σ) (hF:H.free c.F) (h0:0<=i) (hi:i.toNat<S.gave.length) (h:∀ σ',Hs c.k f H { S with gave:=S.gave.set i.toNat v } σ'->Oth H σ σ'->K σ'):zei c d (.ref H.g) (.int i) (.int v) σ K:=by
 refine zdt hH.g hF.g h0 (by rw [List.length_map];exact hi) ?_
 rw [← List.map_set]
 exact h _ hH.up_g (.upd HA.pg hH.g)
theorem zzf {i v:Int} {K:Led->Prop} (hH:Hs c.k f H S σ) (hF:H.free c.F) (h0:0<=i) (hi:i.toNat<S.came.length) (h:∀ σ',Hs c.k f H { S with came:=S.came.set i.toNat v } σ'->Oth H σ σ'->K σ'):zei c d (.ref H.m) (.int i) (.int v) σ K:=by
 refine zdt hH.m hF.m h0 (by rw [List.length_map];exact hi) ?_
 rw [← List.map_set]
 exact h _ hH.up_m (.upd HA.pm hH.m)
theorem zlb {α:Type} {pre post:List (Int × α)} {p:Int × α} (h:((pre++p::post).map (·.1)).Nodup):(pre++p::post).filter (fun q=>decide (q.1≠p.1))=pre++post:=by
 rw [List.map_append,List.map_cons,List.nodup_append] at h
 obtain ⟨h1,h2,h3⟩:=h
 have h4:=(List.nodup_cons.mp h2).1
 rw [List.filter_append,List.filter_cons_of_neg (by simp)]
 congr 1
 ·refine List.filter_eq_self.mpr fun q hq=>?_
  simp only [ne_eq,decide_not,Bool.not_eq_true',decide_eq_false_iff_not]
  exact fun e=>h3 q.1 (List.mem_map.mpr ⟨q,hq,rfl⟩) p.1 (.head _) e
 ·refine List.filter_eq_self.mpr fun q hq=>?_
  simp only [ne_eq,decide_not,Bool.not_eq_true',decide_eq_false_iff_not]
  exact fun e=>h4 (e ▸ List.mem_map.mpr ⟨q,hq,rfl⟩)
theorem zwa {day:Int} (hH:Hs c.k f H S σ) (hF:H.free c.F) (ok:S.Ok) (h:∀ w σ',w.length=S.wasted.length->Hs c.k f H { S with lots:=S.lots.filter (fun p=>decide (day<=p.2.last)),wasted:=w } σ'->Oth H σ σ'->P .none σ'):CallS c (d+1) (f "throw") [.ref H.a,.int day] σ P X:=by
 have hz:=ok.nl
 refine zax hH.K.f_throw ?_
 walk_at "H"
 refine zcx hH.hd hH ok.lotK ok.nl ?_
 walk_at "H"
 refine ⟨_,[],by simp,zau,?_⟩
 refine zb0 (fun p:Int × Lot=>.int p.1) (fun z1=>[(1,.int day),(0,.ref H.a)]) (fun left done σ'=>S.lots=done++left/\∃ w,w.length=S.wasted.length/\Hs c.k f H { S with lots:=done.filter (fun p=>decide (day<=p.2.last))++left,wasted:=w } σ'/\Oth H σ σ') S.lots [] _ σ ?_ ?_ (fun done p left σ₁ hj=>?_) fun done ρ σ₁ hm hj=>?_
 ·walk_at "sub"
 ·exact ⟨rfl,_,rfl,hH,.refl⟩
 ·obtain ⟨e,w,hw,h₁,o₁⟩:=hj
  have hF':H.free (c.pro []).F:=hF
  have hmem:p∈S.lots:=by rw [e];simp
  have hp:=ok.lot p hmem
  have hs:(done.filter (fun p=>decide (day<=p.2.last))++p::left).Sublist S.lots:=by rw [e];exact List.filter_sublist.append (.refl _)
  have hnd:=(hs.map (·.1)).nodup ok.ndl
  have hmid:p∈done.filter (fun p=>decide (day<=p.2.last))++p::left:=by simp
  walk_at "H"
  refine zdm (c:=c.pro []) h₁ hnd hmid ?_
  walk_at "H"
  ·rename_i q
   refine zdm (c:=c.pro []) h₁ hnd hmid ?_
   walk_at "H"
   refine zsn (c:=c.pro []) h₁ hF' hp.2.1 ((Int.toNat_lt hp.2.1).mpr (by rw [hw,ok.len];exact hp.2.2)) fun σ₂ h₂ o₂=>?_
   walk_at "H"
   refine ⟨_,_,ze7 h₂.l,?_⟩
   walk_at "H"
   refine zrb (c:=c.pro []) h₂ hF' hnd (Nat.le_trans hs.length_le (by exact Ar.l01 (.le (.v 0) (.k 1000)) [(.le (.v 0) (.k 100))] (by kernel_rfl) hz)) hmid fun σ₃ h₃ o₃=>?_
   walk_at "H"
   refine ⟨rfl,done++[p],?_,e.trans (List.append_cons ..),w.set p.1.toNat p.2.n,List.length_set.trans hw,?_,(o₁.trans o₂).trans o₃⟩
   ·walk_at "sub"
   ·rw [zlb hnd] at h₃
    rw [List.filter_append,List.filter_cons_of_neg (by simpa using q),List.filter_nil,List.append_nil]
    exact h₃
  ·rename_i q
   refine ⟨rfl,done++[p],?_,e.trans (List.append_cons ..),w,hw,?_,o₁⟩
   ·walk_at "sub"
   ·rw [List.filter_append,List.filter_cons_of_pos (by simpa using q),List.filter_nil,List.append_assoc]
    exact h₁
 ·obtain ⟨e,w,hw,h₁,o₁⟩:=hj
  rw [List.append_nil] at e
  refine za6 hm ?_
  walk_at "H"
  refine zgy (h w σ₁ hw ?_ o₁)
  rw [← e,List.append_nil] at h₁
  exact h₁
end
noncomputable def zbq (i:Int) (R:List zek):Int:=(R.map fun x=>if x.2.1=i then x.2.2 else 0).sum
theorem zn2 (i:Int) (R:List zek) (x:zek):zbq i (R++[x])=zbq i R+if x.2.1=i then x.2.2 else 0:=by
 unfold zbq;rw [List.map_append,List.sum_append];simp
theorem zd8 (i:Int) (R:List zek) (x:zek):zbq i (x::R)=(if x.2.1=i then x.2.2 else 0)+zbq i R:=by
 unfold zbq;rw [List.map_cons,List.sum_cons]
structure FitN (S:HS) (R:List zek):Prop where
 row:∀ x∈R,x.1∈S.lines.map (·.1)/\x.2.1∈S.lots.map (·.1)/\0<x.2.2
 le:∀ p∈S.lots,zbq p.1 R<=p.2.n
 len:R.length<=10000
theorem zjh {i:Int} {T R:List zek} (hs:T.Sublist R):(∀ x∈R,0<x.2.2)->0<=zbq i T/\zbq i T<=zbq i R:=by
 induction hs with
 | slnil=>exact fun z1=>⟨Int.le_refl _,Int.le_refl _⟩
 | cons x _ ih=>
  intro h
  have h1:=ih fun y hy=>h y (.tail _ hy)
  have h2:=h x (.head _)
  have h3:0<=if x.2.1=i then x.2.2 else 0:=by split <;> lia
  rw [zd8];(exact Ar.l30 (.an (.ile (.k 0) (.v 0)) (.ile (.v 0) (.a (.v 1) (.v 2)))) [(.an (.ile (.k 0) (.v 0)) (.ile (.v 0) (.v 2))),(.ile (.k 0) (.v 1))] (by kernel_rfl) h1 h3)
 | cons_cons x _ ih=>
  intro h
  have h1:=ih fun y hy=>h y (.tail _ hy)
  have h2:=h x (.head _)
  have h3:0<=if x.2.1=i then x.2.2 else 0:=by split <;> lia
  rw [zd8,zd8];(exact Ar.l30 (.an (.ile (.k 0) (.a (.v 0) (.v 1))) (.ile (.a (.v 0) (.v 1)) (.a (.v 0) (.v 2)))) [(.an (.ile (.k 0) (.v 1)) (.ile (.v 1) (.v 2))),(.ile (.k 0) (.v 0))] (by kernel_rfl) h1 h3)
theorem FitN.sub {S:HS} {T R:List zek} (h:FitN S R) (hs:T.Sublist R):FitN S T:=
 ⟨fun x hx=>h.row x (hs.subset hx),fun p hp=>Int.le_trans (zjh hs fun x hx=>(h.row x hx).2.2).2 (h.le p hp),Nat.le_trans hs.length_le h.len⟩
theorem PlanOf.fit {S:HS} {R:List zek} (ok:S.Ok) (h:PlanOf S R):FitN S R:=by
 obtain ⟨D,hD,rfl⟩:=h.ex
 have hr:∀ x∈D,x.1<(S.lines.map (·.1)).length/\x.2.1<(S.lots.map (·.1)).length/\0<x.2.2:=fun x hx=>by
  have:=hD.row x hx
  rw [List.length_map] at this
  rw [List.length_map,List.length_map];exact this
 refine ⟨fun x hx=>?_,fun p hp=>?_,by rw [List.length_map];exact hD.len⟩
 ·obtain ⟨y,hy,rfl⟩:=List.mem_map.mp hx
  have:=hr y hy
  exact ⟨List.mem_of_getElem? (getD_get? _ y.1 0 this.1),List.mem_of_getElem? (getD_get? _ y.2.1 0 this.2.1),this.2.2⟩
 ·obtain ⟨t,ht,rfl⟩:=List.mem_iff_getElem.mp hp
  have e:zbq S.lots[t].1 (D.map S.num)=zio t D:=by
   unfold zbq zio
   rw [List.map_map]
   refine congrArg List.sum (List.map_congr_left fun x hx=>?_)
   have q:=(hr x hx).2.1
   have z:((S.lots.map (·.1)).getD x.2.1 0=S.lots[t].1)=(x.2.1=t):=by
    rw [List.getD_eq_getElem?_getD,List.getElem?_eq_getElem q,Option.getD_some]
    refine propext ⟨fun k=>?_,fun k=>?_⟩
    ·refine (List.getElem?_inj q ok.ndl).mp ?_
     rw [List.getElem?_eq_getElem q,k,List.getElem?_map,List.getElem?_eq_getElem ht];rfl
    ·subst k;rw [List.getElem_map]
   show (if (S.lots.map (·.1)).getD x.2.1 0=S.lots[t].1 then x.2.2 else 0)=_
   simp only [z]
  rw [e]
  have:=hD.le t (by rw [List.length_map];exact ht)
  rw [List.getD_eq_getElem?_getD,List.getElem?_map,List.getElem?_eq_getElem ht] at this
  exact this
noncomputable def zs2 (day:Int) (x:zek):V:=.tup [.int day,.int x.1,.int x.2.1,.int x.2.2]
noncomputable def zjz (L:List (Int × Lot)) (T:List zek):List (Int × Lot):=L.map fun p=>(p.1,{ p.2 with n:=p.2.n - zbq p.1 T })
theorem zdh (L:List (Int × Lot)) (T:List zek):(zjz L T).map (·.1)=L.map (·.1):=by unfold zjz;rw [List.map_map];rfl
theorem zx3 (L:List (Int × Lot)):zjz L []=L:=by
 unfold zjz
 conv=>rhs;rw [← List.map_id L]
 refine List.map_congr_left fun p z1=>?_
 show (p.1,({ p.2 with n:=p.2.n - 0 }:Lot))=p
 rw [Int.sub_zero]
theorem zgz (L:List (Int × Lot)) (T:List zek):(zjz L T).length=L.length:=List.length_map _
theorem zon {α:Type} {i:Int} {x:α} {l:List (Int × α)} (h:l.lookup i=some x):(i,x)∈l:=by
 induction l with
 | nil=>cases h
 | cons p l ih=>
  rw [show p=(p.1,p.2) from rfl,List.lookup_cons] at h
  cases q:i == p.1 with
  | true=>rw [q] at h;cases h;rw [eq_of_beq q];exact .head _
  | false=>rw [q] at h;exact .tail _ (ih h)
theorem zjx {α:Type} {l:List (Int × α)} {i:Int} (h:i∈l.map (·.1)):∃ x,l.lookup i=some x:=by
 cases q:l.lookup i with
 | some x=>exact ⟨x,rfl⟩
 | none=>
  obtain ⟨p,hp,e⟩:=List.mem_map.mp h
  have:=List.lookup_eq_none_iff.mp q p hp
  rw [e] at this;simp at this
theorem zx2 {L:List (Int × Lot)} {T:List zek} {x:zek} {l:Lot} (hn:(L.map (·.1)).Nodup) (hl:(zjz L T).lookup x.2.1=some l):z0a x.2.1 { l with n:=l.n - x.2.2 } (zjz L T)=zjz L (T++[x]):=by
 unfold z0a
 rw [if_pos (List.any_eq_true.mpr ⟨_,zon hl,by simp⟩)]
 unfold zjz
 rw [List.map_map]
 refine List.map_congr_left fun p hp=>?_
 show (if p.1=x.2.1 then (p.1,_) else (p.1,_))=_
 rw [zn2]
 by_cases e:p.1=x.2.1
 ·rw [if_pos e,if_pos e.symm]
  have:=zbe (by rw [zdh];exact hn) (List.mem_map_of_mem (f:=fun p:Int × Lot=>(p.1,{ p.2 with n:=p.2.n - zbq p.1 T })) hp:_∈zjz L T)
  dsimp only at this
  rw [e,hl] at this
  cases this
  rw [e]
  congr 2
  lia
 ·rw [if_neg e,if_neg fun q=>e q.symm,Int.add_zero]
theorem zhu {b t:Addr} (σ:Led):(σ.filter fun p=>p.1 != t).lookup b=if b=t then none else σ.lookup b:=by
 induction σ with
 | nil=>exact (ite_self _).symm
 | cons p σ ih=>
  rw [List.filter_cons]
  by_cases e:p.1=t
  ·rw [if_neg (by rw [e,bne_self_eq_false];exact Bool.false_ne_true),ih]
   by_cases z:b=t
   ·rw [if_pos z,if_pos z]
   ·rw [if_neg z,if_neg z,show p=(p.1,p.2) from rfl,List.lookup_cons,beq_eq_false_iff_ne.mpr fun w=>z (w.trans e)]
  ·rw [if_pos (bne_iff_ne.mpr e),show p=(p.1,p.2) from rfl,List.lookup_cons,List.lookup_cons,ih]
   by_cases z:b=p.1
   ·rw [beq_iff_eq.mpr z]
    exact (if_neg fun w=>e (z.symm.trans w)).symm
   ·rw [beq_eq_false_iff_ne.mpr z]
section
variable {f:Str->Value} {H:HA} {S:HS}
theorem Hs.drop {k:Base} {t:Addr} (h:Hs k f H S σ) (ht:t∉H.parts):Hs k f H S (σ.filter fun p=>p.1 != t):=h.of fun x hx z e=>by
 rw [zhu,if_neg (show x≠t from fun q=>ht (q ▸ hx))];exact e
theorem zom {t:Addr} (h:t∉zab σ):σ.lookup t=none:=by
 cases q:σ.lookup t with
 | none=>rfl
 | some o=>exact absurd (zbn q) h
theorem Oth.drop {t:Addr} {o:O} {σ':Led} (h:Oth H ((t,o)::σ) σ') (ht:t∉zab σ):Oth H σ (σ'.filter fun p=>p.1 != t):=fun b hb=>by
 rw [zhu]
 by_cases e:b=t
 ·rw [if_pos e,e,zom ht]
 ·rw [if_neg e,h b hb,List.lookup_cons,beq_eq_false_iff_ne.mpr e]
theorem zwv {i:Int} {l:Line} (hH:Hs c.k f H S σ) (hl:S.lines.lookup i=some l) (h:P l.v σ):zln c d (.ref H.n) (.int i) σ P:=
 ze8 hH.n (by rw [zbf,zbh,hl];rfl) h
theorem zzx {i:Int} {l:Lot} (hH:Hs c.k f H S σ) (hl:S.lots.lookup i=some l) (h:P l.v σ):zln c d (.ref H.l) (.int i) σ P:=
 ze8 hH.l (by rw [zeb,zbh,hl];rfl) h
theorem znd {a:Addr} {l:List Int} {i:Int} (hl:σ.lookup a=some (.list (l.map .int))) (h0:0<=i) (hi:i.toNat<l.length) (h:P (.int (l.getD i.toNat 0)) σ):zln c d (.ref a) (.int i) σ P:=
 zag (.ref hl) h0 (by simp [hi]) h
theorem Hs.free_pro {k:Base} {t:Addr} {F:List Addr} (hH:Hs k f H S σ) (hF:H.free F) (ht:t∉zab σ):H.free ([t]++F):=by
 refine ⟨fun q=>?_,fun b hb q=>?_⟩
 ·rcases List.mem_cons.mp q with q | q
  ·exact ht (mem_owned.mpr ⟨H.a,_,zad hH.a,by rw [← q];simp [O.addrs]⟩)
  ·exact hF.1 q
 ·rcases List.mem_cons.mp q with q | q
  ·exact hH.notin ht (by rw [← q];exact hb)
  ·exact hF.2 b hb q
structure z3v (S S':HS) (dd:Int):Prop where
 ok:S'.Ok
 day:S'.day=S.day
 lines:S'.lines=S.lines.filter fun p=>p.2.day != dd
 gave:S'.gave.length=S.gave.length
 came:S'.came.length=S.came.length
theorem z1n {T:List zek} (ok:S.Ok) (h:FitN S T) {g m:List Int} {day:Int} (hg:g.length=S.gave.length) (hm:m.length=S.came.length) :
  z3v S { S with lots:=(zjz S.lots T).filter (fun p=>p.2.n != 0),lines:=S.lines.filter (fun p=>p.2.day != day),gave:=g,came:=m } day:=by
 refine ⟨⟨ok.day0,ok.day1,fun p hp=>?_,fun p hp=>?_,?_,ok.lineK.sublist (List.filter_sublist.map _),ok.len.trans hg.symm,hg ▸ ok.g,hm ▸ ok.c,?_,?_⟩,rfl,rfl,hg,hm⟩
 ·obtain ⟨h1,h2⟩:=List.mem_filter.mp hp
  obtain ⟨q,hq,rfl⟩:=List.mem_map.mp h1
  have h3:=ok.lot q hq
  have h4:=h.le q hq
  have h5:0<=zbq q.1 T:=(zjh (.refl T) fun x hx=>(h.row x hx).2.2).1
  have h6:q.2.n - zbq q.1 T≠0:=by simpa using h2
  have h7:=h3.1.n1
  show _/\_/\q.1<(g.length:Int)
  rw [hg]
  refine ⟨⟨h3.1.w,h3.1.a0,h3.1.a1,?_,?_⟩,h3.2⟩
  ·show 1<=q.2.n - zbq q.1 T
   (exact Ar.l20 (.ile (.k 1) (.s (.v 0) (.v 1))) [(.ile (.v 1) (.v 0)),(.no (.ieq (.s (.v 0) (.v 1)) (.k 0)))] (by kernel_rfl) h4 h6)
  ·show q.2.n - zbq q.1 T<=_
   (exact Ar.l20 (.ile (.s (.v 0) (.v 1)) (.k 1000000000000)) [(.ile (.k 0) (.v 1)),(.ile (.v 0) (.k 1000000000000))] (by kernel_rfl) h5 h7)
 ·have:=ok.line p (List.mem_filter.mp hp).1
  show _/\_/\p.1<(m.length:Int)
  rw [hm];exact this
 ·have:=ok.lotK
  rw [← zdh S.lots T] at this
  exact this.sublist (List.filter_sublist.map _)
 ·exact Nat.le_trans (List.length_filter_le _ _) (by rw [zgz];exact ok.nl)
 ·exact Nat.le_trans (List.length_filter_le _ _) ok.nn
end
section
variable {f:Str->Value} {H:HA} {S:HS}
inductive z65 (k:Base) (f:Str->Value) (H:HA) (S:HS) (σ:Led) (T left done:List zek) (σ':Led):Prop
 | mk (g m:List Int):T=done++left->g.length=S.gave.length->m.length=S.came.length->Hs k f H { S with lots:=zjz S.lots done,gave:=g,came:=m } σ'->Oth H σ σ'->z65 k f H S σ T left done σ'
inductive z8e {α:Type} (k:Base) (f:Str->Value) (H:HA) (σ:Led) (L:List α) (p:α->Bool) (A:List α->HS) (left done:List α) (σ':Led):Prop
 | mk:L=done++left->Hs k f H (A (done.filter p++left)) σ'->Oth H σ σ'->z8e k f H σ L p A left done σ'
theorem z5t {day:Int} (hH:Hs c.k f H S σ) (hF:H.free c.F) (ok:S.Ok) (h:∀ (S':HS) (T:List zek) (σ':Led),z3v S S' day->T.length<=10000->Hs c.k f H S' σ'->Oth H σ σ'->P (.lst (T.map (zs2 day))) σ') :
  CallS c (d+7) (f "deal") [.ref H.a,.int day] σ P X:=by
 have hzl:=ok.nl
 have hzn:=ok.nn
 have hgl:=ok.g
 have hcl:=ok.c
 refine zax hH.K.f_deal ?_
 walk_at "H"
 intro t hto htF
 have hH₀:=hH.cons (o:=.list []) hto
 have htp:=hH.notin hto
 walk_at "H"
 refine ⟨_,mth hH₀ rfl rfl rfl,?_⟩
 walk_at "H"
 refine z5p hH₀ ok fun R hR=>?_
 have hR:=hR.fit ok
 walk_at "H"
 refine ⟨_,[],by simp,zau,?_⟩
 refine zb0 z36 (fun z1=>[(2,.ref t),(1,.int day),(0,.ref H.a)]) (fun left T σ'=>(T++left).Sublist R/\σ'=(t,.list (T.map (zs2 day)))::σ) R [] _ _ ?_ ?_ (fun T x left σ₁ hj=>?_) fun T ρ σ₁ hm hj=>?_
 ·walk_at "sub"
 ·exact ⟨.refl _,rfl⟩
 ·obtain ⟨e,rfl⟩:=hj
  have hx:=hR.row x (e.subset (List.mem_append_right _ (.head _)))
  have h₁:=hH.cons (o:=.list (T.map (zs2 day))) hto
  have hlen:T.length<=10000:=Nat.le_trans ((List.sublist_append_left _ _).trans e).length_le hR.len
  obtain ⟨l,hl⟩:=zjx hx.1
  show JA _ _ _ _ (.tup [.int x.1,.int x.2.1,.int x.2.2]) _ _ _
  walk_at "H"
  refine zwv (c:=c.pro []) h₁ hl ?_
  walk_at "H"
  ·refine ⟨_,_,za9 zai,?_⟩
   walk_at "H"
   refine zba zai htF (by rw [List.length_map];(exact Ar.l01 (.lt (.v 0) (.k 16777216)) [(.le (.v 0) (.k 10000))] (by kernel_rfl) hlen)) ?_
   rw [zb4]
   walk_at "H"
   refine ⟨rfl,T++[x],?_,by rw [← List.append_cons];exact e,by rw [List.map_append];rfl⟩
   walk_at "sub"
  ·refine ⟨rfl,T,?_,(List.Sublist.append_left (List.sublist_cons_self _ _) _).trans e,rfl⟩
   walk_at "sub"
 obtain ⟨e,rfl⟩:=hj
 rw [List.append_nil] at e
 have hT:=hR.sub e
 clear e hR
 refine za6 hm ?_
 clear hm
 walk_at "H"
 refine ⟨_,[t],by simp [zab,O.addrs],zdy zai (by simp [Cx.pro]),?_⟩
 have hF₂:H.free (c.pro [t]).F:=hH.free_pro hF hto
 have h₁:=hH.cons (o:=.list (T.map (zs2 day))) hto
 refine zb0 (zs2 day) (fun z1=>[(2,.ref t),(1,.int day),(0,.ref H.a)]) (z65 c.k f H S ((t,.list (T.map (zs2 day)))::σ) T) T [] _ _ ?_ ?_ (fun done x left σ₁ hj=>?_) fun done ρ σ₁ hm hj=>?_
 ·walk_at "sub"
 ·exact ⟨S.gave,S.came,rfl,rfl,rfl,by rw [zx3];exact h₁,.refl⟩
 ·obtain ⟨g,m,e,hg,hm,h₂,o₂⟩:=hj
  have hx:=hT.row x (by rw [e];simp)
  obtain ⟨l,hl⟩:=zjx (l:=zjz S.lots done) (i:=x.2.1) (by rw [zdh];exact hx.2.1)
  obtain ⟨p,hp,ep⟩:=List.mem_map.mp hx.1
  obtain ⟨q,hq,eq⟩:=List.mem_map.mp hx.2.1
  have b1:=(ok.line p hp).2
  have b2:=(ok.lot q hq).2
  rw [ep] at b1
  rw [eq] at b2
  show JA _ _ _ _ (.tup [.int day,.int x.1,.int x.2.1,.int x.2.2]) _ _ _
  walk_at "H"
  refine zzx (c:=c.pro [t]) h₂ hl ?_
  walk_at "H"
  refine zq8 (c:=c.pro [t]) (l:={ l with n:=l.n - x.2.2 }) h₂ hF₂ (by show (zjz S.lots done).length<=1000;rw [zgz];(exact Ar.l01 (.le (.v 0) (.k 1000)) [(.le (.v 0) (.k 100))] (by kernel_rfl) hzl)) fun σ₂ h₃ o₃=>?_
  rw [zx2 ok.ndl hl] at h₃
  walk_at "H"
  refine znd h₃.g b2.1 ((Int.toNat_lt b2.1).mpr (hg ▸ b2.2)) ?_
  walk_at "H"
  refine zze (c:=c.pro [t]) h₃ hF₂ b2.1 ((Int.toNat_lt b2.1).mpr (hg ▸ b2.2)) fun σ₃ h₄ o₄=>?_
  walk_at "H"
  refine znd h₄.m b1.1 ((Int.toNat_lt b1.1).mpr (hm ▸ b1.2)) ?_
  walk_at "H"
  refine zzf (c:=c.pro [t]) h₄ hF₂ b1.1 ((Int.toNat_lt b1.1).mpr (hm ▸ b1.2)) fun σ₄ h₅ o₅=>?_
  walk_at "H"
  refine ⟨rfl,done++[x],?_,_,_,e.trans (List.append_cons ..),List.length_set.trans hg,List.length_set.trans hm,h₅,((o₂.trans o₃).trans o₄).trans o₅⟩
  walk_at "sub"
 obtain ⟨g,m,e,hg,hm',h₂,o₂⟩:=hj
 rw [List.append_nil] at e
 subst e
 refine za6 hm ?_
 clear hm
 walk_at "H"
 refine zda hH.hd h₂ ok.lineK ok.nn ?_
 walk_at "H"
 refine ⟨_,[],by simp,zau,?_⟩
 refine zb0 (fun p:Int × Line=>.int p.1) (fun z1=>[(2,.ref t),(1,.int day),(0,.ref H.a)]) (z8e c.k f H ((t,.list (T.map (zs2 day)))::σ) S.lines (fun p=>p.2.day != day) fun L=>{ S with lots:=zjz S.lots T,gave:=g,came:=m,lines:=L }) S.lines [] _ _ ?_ ?_ (fun done p left σ₃ hj=>?_) fun done ρ σ₃ hm hj=>?_
 ·walk_at "sub"
 ·exact ⟨rfl,h₂,o₂⟩
 ·obtain ⟨e,h₃,o₃⟩:=hj
  have hF':H.free (c.pro []).F:=hF
  have hs:(done.filter (fun p=>p.2.day != day)++p::left).Sublist S.lines:=by rw [e];exact List.filter_sublist.append (.refl _)
  have hnd:=(hs.map (·.1)).nodup ok.ndn
  have hmid:p∈done.filter (fun p=>p.2.day != day)++p::left:=by simp
  walk_at "H"
  refine zcu (c:=c.pro []) h₃ hnd hmid ?_
  walk_at "H"
  ·rename_i q
   refine ⟨_,_,ze7 h₃.n,?_⟩
   walk_at "H"
   refine zm7 (c:=c.pro []) h₃ hF' hnd (Nat.le_trans hs.length_le (by exact Ar.l01 (.le (.v 0) (.k 1000)) [(.le (.v 0) (.k 100))] (by kernel_rfl) hzn)) hmid fun σ₄ h₄ o₄=>?_
   walk_at "H"
   refine ⟨rfl,done++[p],?_,e.trans (List.append_cons ..),?_,o₃.trans o₄⟩
   ·walk_at "sub"
   ·unfold HS.cancel at h₄
    dsimp only at h₄
    rw [zlb hnd] at h₄
    rw [List.filter_append,List.filter_cons_of_neg (by simpa using q),List.filter_nil,List.append_nil]
    exact h₄
  ·rename_i q
   refine ⟨rfl,done++[p],?_,e.trans (List.append_cons ..),?_,o₃⟩
   ·walk_at "sub"
   ·rw [List.filter_append,List.filter_cons_of_pos (by simpa using q),List.filter_nil,List.append_assoc]
    exact h₃
 obtain ⟨e,h₃,o₃⟩:=hj
 rw [List.append_nil] at e
 rw [← e,List.append_nil] at h₃
 refine za6 hm ?_
 clear hm
 walk_at "H"
 refine zcx hH.hd h₃ (by show ((zjz S.lots T).map (·.1)).Pairwise _;rw [zdh];exact ok.lotK) (by show (zjz S.lots T).length<=100;rw [zgz];exact ok.nl) ?_
 walk_at "H"
 refine ⟨_,[],by simp,zau,?_⟩
 refine zb0 (fun p:Int × Lot=>.int p.1) (fun z1=>[(2,.ref t),(1,.int day),(0,.ref H.a)]) (z8e c.k f H ((t,.list (T.map (zs2 day)))::σ) (zjz S.lots T) (fun p=>p.2.n != 0) fun L=>{ S with lots:=L,gave:=g,came:=m,lines:=S.lines.filter fun p=>p.2.day != day }) (zjz S.lots T) [] _ _ ?_ ?_ (fun done p left σ₄ hj=>?_) fun done ρ σ₄ hm hj=>?_
 ·walk_at "sub"
 ·exact ⟨rfl,h₃,o₃⟩
 ·obtain ⟨e,h₄,o₄⟩:=hj
  have hF':H.free (c.pro []).F:=hF
  have hs:(done.filter (fun p=>p.2.n != 0)++p::left).Sublist (zjz S.lots T):=by rw [e];exact List.filter_sublist.append (.refl _)
  have hnd:=(hs.map (·.1)).nodup (by rw [zdh];exact ok.ndl)
  have hmid:p∈done.filter (fun p=>p.2.n != 0)++p::left:=by simp
  walk_at "H"
  refine zdm (c:=c.pro []) h₄ hnd hmid ?_
  walk_at "H"
  ·rename_i q
   refine ⟨_,_,ze7 h₄.l,?_⟩
   walk_at "H"
   refine zrb (c:=c.pro []) h₄ hF' hnd (Nat.le_trans hs.length_le (by rw [zgz];(exact Ar.l01 (.le (.v 0) (.k 1000)) [(.le (.v 0) (.k 100))] (by kernel_rfl) hzl))) hmid fun σ₅ h₅ o₅=>?_
   walk_at "H"
   refine ⟨rfl,done++[p],?_,e.trans (List.append_cons ..),?_,o₄.trans o₅⟩
   ·walk_at "sub"
   ·rw [zlb hnd] at h₅
    rw [List.filter_append,List.filter_cons_of_neg (by simpa using q),List.filter_nil,List.append_nil]
    exact h₅
  ·rename_i q
   refine ⟨rfl,done++[p],?_,e.trans (List.append_cons ..),?_,o₄⟩
   ·walk_at "sub"
   ·rw [List.filter_append,List.filter_cons_of_pos (by simpa using q),List.filter_nil,List.append_assoc]
    exact h₄
 obtain ⟨e,h₄,o₄⟩:=hj
 rw [List.append_nil] at e
 rw [← e,List.append_nil] at h₄
 refine za6 hm ?_
 clear hm
 have hlt:σ₄.lookup t=some (.list (T.map (zs2 day))):=(o₄ t htp).trans zai
 refine zc5 ?_
 show Ret P (.ret (.ref t)) [] σ₄
 exact ⟨_,_,.freeze hlt (.refl _),h _ T _ (z1n ok hT hg hm') hT.len (h₄.drop htp) (o₄.drop hto)⟩
end
theorem HS.Ok.throw {S:HS} (ok:S.Ok) {day:Int} {w:List Int} (hw:w.length=S.wasted.length):HS.Ok { S with lots:=S.lots.filter (fun p=>decide (day<=p.2.last)),wasted:=w }:=
 ⟨ok.day0,ok.day1,fun p hp=>ok.lot p (List.mem_filter.mp hp).1,ok.line,ok.lotK.sublist (List.filter_sublist.map _),ok.lineK,hw.trans ok.len,ok.g,ok.c,Nat.le_trans (List.length_filter_le _ _) ok.nl,ok.nn⟩
structure GoP (S S':HS) (goal:Int) (fnd:List (Int × zek)):Prop where
 ok:S'.Ok
 day:S'.day=goal
 lines:S'.lines=S.lines.filter fun p=>decide (goal<=p.2.day)
 gave:S'.gave.length=S.gave.length
 came:S'.came.length=S.came.length
 len:fnd.length<=1000000
 none:(∀ p∈S.lines,goal<=p.2.day)->S'.lots=S.lots.filter (fun p=>decide (goal<=p.2.last))/\fnd=[]
structure GoD (S S₁:HS) (done:List Int) (fnd:List (Int × zek)):Prop where
 ok:S₁.Ok
 day:S₁.day=S.day
 lines:S₁.lines=S.lines.filter fun p=>!done.contains p.2.day
 gave:S₁.gave.length=S.gave.length
 came:S₁.came.length=S.came.length
 len:fnd.length<=10000 * done.length
 none:done=[]->S₁.lots=S.lots/\fnd=[]
theorem GoD.snoc {S S₁ S₂:HS} {done:List Int} {fnd:List (Int × zek)} {here:Int} {w:List Int} {T:List zek} {L:List (Int × Lot)} (I:GoD S S₁ done fnd) (h:z3v { S₁ with lots:=L,wasted:=w } S₂ here) (hT:T.length<=10000):GoD S S₂ (done++[here]) (fnd++T.map fun x=>(here,x)):=by
 refine ⟨h.ok,h.day.trans I.day,?_,h.gave.trans I.gave,h.came.trans I.came,?_,fun q=>absurd q (by simp)⟩
 ·rw [h.lines]
  show S₁.lines.filter _=_
  rw [I.lines,List.filter_filter]
  refine List.filter_congr fun p z1=>?_
  rw [List.contains_append,Bool.not_or,List.contains_cons,List.contains_nil,Bool.or_false,Bool.and_comm];rfl
 ·rw [List.length_append,List.length_append,List.length_map]
  have:=I.len
  show fnd.length+T.length<=10000 * (done.length+1)
  (exact Ar.l03 (.le (.a (.v 0) (.v 1)) (.m 10000 (.a (.v 2) (.k 1)))) [(.le (.v 1) (.k 10000)),(.le (.v 0) (.m 10000 (.v 2)))] (by kernel_rfl) hT this)
theorem GoD.fin {S S₁:HS} {ys:List Int} {fnd:List (Int × zek)} {goal:Int} {w:List Int} (I:GoD S S₁ ys fnd) (hd:∀ x,x∈ys ↔ (∃ p∈S.lines,p.2.day=x)/\x<goal) (hl:ys.length<=100) (h0:0<=goal) (h1:goal<=1000000000000) (hw:w.length=S₁.wasted.length) :
  GoP S { S₁ with lots:=S₁.lots.filter (fun p=>decide (goal<=p.2.last)),wasted:=w,day:=goal } goal fnd:=by
 have o:=I.ok.throw (day:=goal) hw
 refine ⟨⟨h0,h1,o.lot,o.line,o.lotK,o.lineK,o.len,o.g,o.c,o.nl,o.nn⟩,rfl,?_,I.gave,I.came,by have:=I.len;(exact Ar.l02 (.le (.v 0) (.k 1000000)) [(.le (.v 1) (.k 100)),(.le (.v 0) (.m 10000 (.v 1)))] (by kernel_rfl) hl this),fun q=>?_⟩
 ·show S₁.lines=_
  rw [I.lines]
  refine List.filter_congr fun p hp=>?_
  have:=hd p.2.day
  rw [List.contains_eq_mem]
  by_cases z:p.2.day<goal
  ·rw [decide_eq_true (this.mpr ⟨⟨p,hp,rfl⟩,z⟩),decide_eq_false (Int.not_le.mpr z)];rfl
  ·rw [decide_eq_false fun k=>z (this.mp k).2,decide_eq_true (Int.not_lt.mp z)];rfl
 ·have e:ys=[]:=List.eq_nil_iff_forall_not_mem.mpr fun x hx=>by
   obtain ⟨⟨p,hp,e⟩,z⟩:=(hd x).mp hx
   exact Int.not_lt.mpr (q p hp) (e ▸ z)
  obtain ⟨k1,k2⟩:=I.none e
  exact ⟨by show S₁.lots.filter _=_;rw [k1],k2⟩
theorem zun {α:Type} {l:List α}:∀ {m:List α},l.Nodup->(∀ x∈l,x∈m)->l.length<=m.length:=by
 induction l with
 | nil=>exact fun z1 z2=>Nat.zero_le _
 | cons x l ih=>
  intro m hn h
  obtain ⟨h1,h2⟩:=List.nodup_cons.mp hn
  obtain ⟨a,b,rfl⟩:=List.append_of_mem (h x (.head _))
  have:=ih (m:=a++b) h2 fun y hy=>by
   rcases List.mem_append.mp (h y (.tail _ hy)) with q | q
   ·exact List.mem_append_left _ q
   ·rcases List.mem_cons.mp q with q | q
    ·rw [q] at hy;exact absurd hy h1
    ·exact List.mem_append_right _ q
  rw [List.length_append] at this ⊢
  rw [List.length_cons,List.length_cons]
  (exact Ar.l03 (.le (.a (.v 0) (.k 1)) (.a (.v 1) (.a (.v 2) (.k 1)))) [(.le (.v 0) (.a (.v 1) (.v 2)))] (by kernel_rfl) this)
section
variable {f:Str->Value} {H:HA} {S:HS}
noncomputable def zrv (x:Int × zek):V:=zs2 x.1 x.2
inductive GoJ (k:Base) (f:Str->Value) (H:HA) (S:HS) (σ:Led) (ys left:List Int) (fnd:List (Int × zek)) (σ':Led):Prop
 | mk (done:List Int) (S₁:HS):ys=done++left->GoD S S₁ done fnd->Hs k f H S₁ σ'->Oth H σ σ'->GoJ k f H S σ ys left fnd σ'
theorem z21 {goal:Int} (hH:Hs c.k f H S σ) (hF:H.free c.F) (ok:S.Ok) (h0:S.day<=goal) (h1:goal<=1000000000000)
  (h:∀ S' fnd σ',GoP S S' goal fnd->Hs c.k f H S' σ'->Oth H σ σ'->P (.lst (fnd.map zrv)) σ'):CallS c (d+8) (f "go_to") [.ref H.a,.int goal] σ P X:=by
 have hzn:=ok.nn
 refine zax hH.K.f_go_to ?_
 walk_at "H"
 refine zct hH.K.things ?_
 walk_at "H"
 all_goals try (exfalso;lia)
 refine ⟨_,[H.n],by simpa using zbn hH.n,zwu (c:=c.pro [H.n]) hH.n (by simp [Cx.pro]) (by rw [zbf,List.length_map];(exact Ar.l01 (.le (.v 0) (.k 1000)) [(.le (.v 0) (.k 100))] (by kernel_rfl) hzn)),fun D=>?_⟩
 rw [show (zbf S.lines).map (fun kv=>V.int kv.1)=S.lines.map (fun p=>V.int p.1) by rw [zbf,List.map_map];rfl]
 refine zg0 (fun p:Int × Line=>.int p.1) (fun p=>.int p.2.day) (fun p=>decide (p.2.day<goal)) S.lines [] (fun p hp=>⟨_,rfl,?_,fun z1=>?_⟩) ?_
 ·walk_at "H"
  refine zcu (c:=(c.pro [H.n]).hide D) hH ok.ndn hp ?_
  walk_at "H"
  exact ⟨rfl,rfl⟩
 ·walk_at "H"
  refine zcu (c:=(c.pro [H.n]).hide D) hH ok.ndn hp ?_
  walk_at "H"
  exact ⟨rfl,rfl⟩
 refine zcj ?_
 rw [List.nil_append,show (S.lines.filter fun p=>decide (p.2.day<goal)).map (fun p=>V.int p.2.day)=((S.lines.filter fun p=>decide (p.2.day<goal)).map fun p=>p.2.day).map V.int by rw [List.map_map];rfl]
 walk_at "H"
 refine znr hH.hd (.lst _) (by rw [List.length_map];exact Nat.le_trans (List.length_filter_le _ _) (by exact Ar.l01 (.le (.v 0) (.k 1000)) [(.le (.v 0) (.k 100))] (by kernel_rfl) hzn)) fun ks hkn hkm=>?_
 walk_at "H"
 have hkl:ks.length<=100:=by
  have h2:ks.length<=((S.lines.filter fun p=>decide (p.2.day<goal)).map fun p=>p.2.day).length:=zun hkn fun x hx=>(hkm x).mp hx
  rw [List.length_map] at h2
  exact Nat.le_trans h2 (Nat.le_trans (List.length_filter_le _ _) hzn)
 refine zgx hH.hd (zux hkl) fun ys hyp=>?_
 have hD:∀ x,x∈ys ↔ (∃ p∈S.lines,p.2.day=x)/\x<goal:=fun x=>by
  rw [hyp.mem_iff,hkm,List.mem_map]
  constructor
  ·rintro ⟨p,hp,rfl⟩
   obtain ⟨h2,h3⟩:=List.mem_filter.mp hp
   exact ⟨⟨p,h2,rfl⟩,of_decide_eq_true h3⟩
  ·rintro ⟨⟨p,hp,rfl⟩,h3⟩
   exact ⟨p,List.mem_filter.mpr ⟨hp,decide_eq_true h3⟩,rfl⟩
 have hyl:ys.length<=100:=by rw [hyp.length_eq];exact hkl
 clear hkn hkm hyp
 walk_at "H"
 refine ⟨_,[],by simp,zau,?_⟩
 refine zb0 V.int (fun fnd:List (Int × zek)=>[(4,.lst (fnd.map zrv)),(1,.int goal),(0,.ref H.a)]) (GoJ c.k f H S σ ys) ys [] _ σ ?_ ?_ (fun fnd here left σ₁ hj=>?_) fun fnd ρ σ₁ hm hj=>?_
 ·walk_at "sub"
 ·exact ⟨[],S,rfl,⟨ok,rfl,(List.filter_eq_self.mpr (by simp)).symm,rfl,rfl,Nat.zero_le _,fun z1=>⟨rfl,rfl⟩⟩,hH,.refl⟩
 ·obtain ⟨done,S₁,e,I,h₁,o₁⟩:=hj
  have hF':H.free (c.pro []).F:=hF
  have hdl:done.length+1<=100:=by rw [e,List.length_append,List.length_cons] at hyl;(exact Ar.l02 (.le (.a (.v 0) (.k 1)) (.k 100)) [(.le (.a (.v 0) (.a (.v 1) (.k 1))) (.k 100))] (by kernel_rfl) hyl)
  walk_at "H"
  refine ⟨_,mth h₁ rfl rfl rfl,?_⟩
  walk_at "H"
  refine zwa (c:=c.pro []) h₁ hF' I.ok fun w σ₂ hw h₂ o₂=>?_
  walk_at "H"
  refine ⟨_,mth h₂ rfl rfl rfl,?_⟩
  walk_at "H"
  refine z5t (c:=c.pro []) h₂ hF' (I.ok.throw hw) fun S₂ T σ₃ hP hT h₃ o₃=>?_
  walk_at "H"
  refine zpb (.lst _) (.lst _) (by rw [List.length_map,List.length_map];have:=I.len;(exact Ar.l03 (.le (.a (.v 0) (.v 1)) (.k 1000000)) [(.le (.a (.v 2) (.k 1)) (.k 100)),(.le (.v 1) (.k 10000)),(.le (.v 0) (.m 10000 (.v 2)))] (by kernel_rfl) hdl hT this)) ?_
  rw [show fnd.map zrv++T.map (zs2 here)=(fnd++T.map fun x=>(here,x)).map zrv by rw [List.map_append,List.map_map];rfl]
  walk_at "H"
  refine ⟨rfl,_,?_,done++[here],_,e.trans (List.append_cons ..),I.snoc hP hT,h₃,(o₁.trans o₂).trans o₃⟩
  walk_at "sub"
 obtain ⟨done,S₁,e,I,h₁,o₁⟩:=hj
 rw [List.append_nil] at e
 subst e
 refine za6 hm ?_
 clear hm
 walk_at "H"
 refine ⟨_,mth h₁ rfl rfl rfl,?_⟩
 walk_at "H"
 refine zwa h₁ hF I.ok fun w σ₂ hw h₂ o₂=>?_
 walk_at "H"
 refine zq9 h₂.a hF.1 (h₂.K.fld _ (by simp)) (by simp [HA.fs]) ?_
 walk_at "H"
 exact h _ fnd _ (I.fin hD hyl (Int.le_trans ok.day0 h0) h1 hw) h₂.up_a ((o₁.trans o₂).trans (.upd HA.pa h₂.a))
end
theorem zgj (h:P (.bool false) σ):CallS c d (.builtin "isinstance") [.none,.raw (.type "str")] σ P X:=zqp (fun q=>IsiPair.NoneType_str (q _)) h
theorem znm {a:Addr} {kvs:List (Int × V)} (hl:σ.lookup a=some (.dictI kvs)) (h:P (.bool false) σ):CallS c d (.builtin "isinstance") [.ref a,.raw (.type "int")] σ P X:=zcb (fun e hc q=>IsiPair.dict_int e hc (q _)) (zyq hl) h
theorem zc3 {b:Bool} (h:P (.int (if b then 1 else 0)) σ):CallS c d (.type "int") [.bool b] σ P X:=by
 intro A s E cs hA st rs _
 obtain ⟨x,rfl,r⟩:=rs.un1
 simp only [VRel] at r;subst r
 exact call_int_bool ⟨_,σ,h,.toks,st,by simp only [VRel];exact ⟨_,rfl⟩⟩
inductive NotInt (σ:Led):V->Prop
 | str {x:Str}:NotInt σ (.str x)
 | bool {b:Bool}:NotInt σ (.bool b)
 | none:NotInt σ .none
 | lst {vs:List V}:NotInt σ (.lst vs)
 | tup {vs:List V}:NotInt σ (.tup vs)
 | dict {a:Addr}:σ.lookup a=some (.dictI [])->NotInt σ (.ref a)
inductive OPart:V->Prop
 | str {x:Str}:x.length<=1000->PyData.strOk x=true->OPart (.str x)
 | int {i:Int}:OPart (.int i)
 | bool {b:Bool}:OPart (.bool b)
 | none:OPart .none
 | lst {vs:List V}:OPart (.lst vs)
theorem OPart.cases {v:V} (h:OPart v):(∃ i,v=.int i)\/NotInt σ v:=by
 cases h with
 | int=>exact .inl ⟨_,rfl⟩
 | str=>exact .inr .str
 | bool=>exact .inr .bool
 | none=>exact .inr .none
 | lst=>exact .inr .lst
noncomputable def zgl (v:V):Bool:=V.casesOn (motive_1:=fun z1=>Bool) v false (fun z1=>false) (fun z1=>false) (fun x=>zfc x) (fun z1=>false) (fun z1=>false) (fun z1 z2=>false) (fun z1 z2=>false) (fun z1=>false) (fun z1=>false)
noncomputable def zcn (v:V) (f:Int->Bool):Bool:=V.casesOn (motive_1:=fun z1=>Bool) v false (fun z1=>false) f (fun z1=>false) (fun z1=>false) (fun z1=>false) (fun z1 z2=>false) (fun z1 z2=>false) (fun z1=>false) (fun z1=>false)
theorem NotInt.v {v:V} {f:Int->Bool} (h:NotInt σ v):zcn v f=false:=by cases h <;> rfl
theorem zc2 {x:Str} (hf:FnT c.k x 1 zbj) {v:V} (hv:NotInt σ v) (h:P (.bool false) σ):CallN c (d+1) x [v] σ P X:=by
 refine zae hf ?_
 cases hv with
 | dict hl=>
  repeat' first | walk_at "x" | refine znm hl ?_
  exact h
 | _=>
  repeat' first | walk_at "x" | refine zni ?_
  exact h
theorem zdw {x:Str} (hf:FnT c.k x 1 zbj) {i:Int} (h:P (.bool true) σ):CallN c (d+1) x [.int i] σ P X:=by
 refine zae hf ?_
 walk_at "X"
 exact h
theorem zv9 (hp:za5 c.k) {v:V} (hv:OPart v) (h:P (.bool (zgl v)) σ):CallN c (d+1) "is_ware" [v] σ P X:=by
 cases hv with
 | str hx _=>exact zih hp (Nat.le_trans hx (by decide)) h
 | _=>
  refine zae hp.f_is_ware ?_
  repeat' first | walk_at "x" | refine zgj ?_
  exact h
theorem zwg (hp:za5 c.k) {v:V} (hv:OPart v) (h:P (.bool (zcn v zlv)) σ):CallN c (d+2) "is_day" [v] σ P X:=by
 rcases hv.cases (σ:=σ) with ⟨i,rfl⟩ | hn
 ·exact zlj hp h
 ·rw [hn.v] at h
  refine zae hp.f_is_day ?_
  walk_at "X"
  refine zc2 hp.f_is_whole hn ?_
  walk_at "X"
  exact h
theorem zra (hp:za5 c.k) {v:V} (hv:OPart v) (h:P (.bool (zcn v zck)) σ):CallN c (d+2) "is_count" [v] σ P X:=by
 rcases hv.cases (σ:=σ) with ⟨i,rfl⟩ | hn
 ·exact zf2 hp h
 ·rw [hn.v] at h
  refine zae hp.f_is_count ?_
  walk_at "X"
  refine zc2 hp.f_is_whole hn ?_
  walk_at "X"
  exact h
theorem z5q (hp:za5 c.k) {a b e:V} (ha:OPart a) (hb:OPart b) (he:OPart e) (h:P (.bool (zgl a && (zcn b zlv && zcn e zck))) σ):CallN c (d+3) "is_lot" [.tup [a,b,e]] σ P X:=by
 refine zae hp.f_is_lot ?_
 walk_at "X"
 refine zv9 hp ha ?_
 walk_at "X"
 ·rename_i q1
  refine zwg hp hb ?_
  rw [q1,Bool.true_and] at h
  walk_at "X"
  ·rename_i q2
   refine zra hp he ?_
   rw [q2,Bool.true_and] at h
   walk_at "X"
   exact h
  ·rename_i q2
   rw [q2,Bool.false_and] at h
   exact h
 ·rename_i q1
  rw [q1,Bool.false_and] at h
  exact h
theorem z2z (hp:za5 c.k) {a b e f:V} (ha:OPart a) (hb:OPart b) (he:OPart e) (hf:OPart f) (h:P (.bool (zgl a && (zcn b zlv && (zcn e zlv && zcn f zck)))) σ):CallN c (d+3) "is_line" [.tup [a,b,e,f]] σ P X:=by
 refine zae hp.f_is_line ?_
 walk_at "X"
 refine zv9 hp ha ?_
 walk_at "X"
 ·rename_i q1
  refine zwg hp hb ?_
  rw [q1,Bool.true_and] at h
  walk_at "X"
  ·rename_i q2
   refine zwg hp he ?_
   rw [q2,Bool.true_and] at h
   walk_at "X"
   ·rename_i q3
    refine zra hp hf ?_
    rw [q3,Bool.true_and] at h
    walk_at "X"
    exact h
   ·rename_i q3
    rw [q3,Bool.false_and] at h
    exact h
  ·rename_i q2
   rw [q2,Bool.false_and] at h
   exact h
 ·rename_i q1
  rw [q1,Bool.false_and] at h
  exact h
noncomputable def zel:T:=(.cons (.ite (.cmp .Eq (.bin .Mod (.var 0) (.int 8)) (.int 0)) (.cons (.ret (.bin .Mod (.bin .FloorDiv (.var 0) (.int 8)) (.bin .Add (.bin .Pow (.int 10) (.int 12)) (.int 1)))) .nil) .nil) (.cons (.ite (.cmp .Eq (.bin .Mod (.var 0) (.int 8)) (.int 1)) (.cons (.ret (.bin .Mod (.bin .FloorDiv (.var 0) (.int 8)) (.int 1000))) .nil) .nil) (.cons (.ret (.bin .Mod (.bin .FloorDiv (.var 0) (.int 8)) (.int 7))) .nil)))
noncomputable def zkr:List Str:=["_law_mixed_here"]
noncomputable def zfi:T:=(.cmp .Eq (.bin .Mod (.call "_law_mixed" (.cons (.var 1) (.cons (.int 3) .nil))) (.int 8)) (.int 0))
noncomputable def zfh:T:=(.cmp .Eq (.var 2) (.int 1))
noncomputable def zfg:T:=(.cmp .Eq (.bin .Mod (.call "_law_mixed" (.cons (.var 1) (.cons (.int 6) .nil))) (.int 9)) (.int 0))
noncomputable def zbd:T:=(.cons (.asgn (.var 3) (.call "_law_word" (.cons (.item (.var 0) (.str "base")) (.cons (.bin .Mod (.call "_law_mixed" (.cons (.var 1) (.cons (.int 1) .nil))) (.int 3)) .nil)))) (.cons (.asgn (.var 4) (.blt .max (.cons (.int 0) (.cons (.bin .Sub (.bin .Add (.item (.var 0) (.str "day")) (.bin .Mod (.call "_law_mixed" (.cons (.var 1) (.cons (.int 2) .nil))) (.int 12))) (.int 2)) .nil)))) (.cons (.ite (.cut zfi) (.cons (.asgn (.var 4) (.bin .Mod (.bin .FloorDiv (.call "_law_mixed" (.cons (.var 1) (.cons (.int 3) .nil))) (.int 8)) (.bin .Add (.bin .Pow (.int 10) (.int 12)) (.int 1)))) .nil) .nil) (.cons (.asgn (.var 5) (.lst true (.cons (.var 3) (.cons (.var 4) (.cons (.bin .Add (.int 1) (.bin .Mod (.call "_law_wide" (.cons (.call "_law_mixed" (.cons (.var 1) (.cons (.int 4) .nil))) .nil)) (.bin .Pow (.int 10) (.int 12)))) .nil))))) (.cons (.ite (.cut zfh) (.cons (.expr (.meth (.var 5) "insert" (.cons (.int 2) (.cons (.call "_law_wide" (.cons (.call "_law_mixed" (.cons (.var 1) (.cons (.int 5) .nil))) .nil)) .nil)))) .nil) .nil) (.cons (.ite (.cut zfg) (.cons (.asgn (.var 6) (.str " !\"#$&'()*+,-./0123456789:;<=>?@ABCDEFGHIJKLMNOPQRSTUVWXYZ[\\]^_{|}~\n\t")) (.cons (.asgn (.var 7) (.bin .Add (.bin .Add (.slice (.var 3) .nil (.int 5)) (.item (.var 6) (.bin .Mod (.bin .FloorDiv (.call "_law_mixed" (.cons (.var 1) (.cons (.int 8) .nil))) (.int 9)) (.blt .len (.cons (.var 6) .nil))))) (.slice (.var 3) (.int 5) (.int 11)))) (.cons (.asgn (.var 8) (.lst false (.cons (.bin .Sub (.int 0) (.int 1)) (.cons (.bin .Add (.bin .Pow (.int 10) (.int 12)) (.int 1)) (.cons (.bool true) (.cons .none (.cons (.str "") (.cons (.var 7) (.cons (.var 7) (.cons (.lst false (.cons (.int 1) .nil)) .nil)))))))))) (.cons (.asgn (.item (.var 5) (.bin .Mod (.item (.lst false (.cons (.int 0) (.cons (.int 0) (.cons (.int 1) (.cons (.int 2) (.cons (.int 3) .nil)))))) (.bin .Mod (.call "_law_mixed" (.cons (.var 1) (.cons (.int 7) .nil))) (.int 5))) (.blt .len (.cons (.var 5) .nil)))) (.item (.var 8) (.bin .Mod (.call "_law_mixed" (.cons (.var 1) (.cons (.int 8) .nil))) (.int 8)))) .nil)))) .nil) (.cons (.ret (.var 5)) .nil)))))))
noncomputable def zi2:List Str:=["_law_own","_law_cell","_law_kind_here","_law_ware","_law_day","_law_parts_here","_law_signs","_law_odd","_law_some"]
noncomputable def zfd:T:=(.var 1)
noncomputable def zfe:T:=(.cmp .NotIn (.var 1) (.str "abcdefghijklmnopqrstuvwxyz"))
noncomputable def zff:T:=(.cons (.ite (.bo .Or (.cons (.un .Not (.call "_law_whole" (.cons (.item (.var 0) (.var 2)) .nil))) (.cons (.un .Not (.cmp2 (.blt .int (.cons (.cmp .Eq (.var 2) (.bin .Sub (.blt .len (.cons (.var 0) .nil)) (.int 1))) .nil)) .LtE (.item (.var 0) (.var 2)) .LtE (.bin .Pow (.int 10) (.int 12)))) .nil))) (.cons (.ret (.bool false)) .nil) .nil) .nil)
noncomputable def zcl:T:=(.cons (.ite (.bo .Or (.cons (.un .Not (.isi (.item (.var 0) (.int 0)) .str)) (.cons (.un .Not (.cmp2 (.int 1) .LtE (.blt .len (.cons (.item (.var 0) (.int 0)) .nil)) .LtE (.int 12))) .nil))) (.cons (.ret (.bool false)) .nil) .nil) (.cons (.ite (.cmp .Gt (.blt .len (.cons (.comp false true zfd [1] (.item (.var 0) (.int 0)) zfe) .nil)) (.int 0)) (.cons (.ret (.bool false)) .nil) .nil) (.cons (.for_ (.var 2) (.blt .range (.cons (.int 1) (.cons (.blt .len (.cons (.var 0) .nil)) .nil))) zff) (.cons (.ret (.bool true)) .nil))))
noncomputable def zi1:List Str:=["_law_parts_here","_law_sign","_law_k"]
noncomputable def zf7:T:=(.cons (.ite (.cmp .Eq (.var 1) (.int 0)) (.cons (.ret (.methI (.var 0) "receive" (.cons (.item (.var 2) (.int 0)) (.cons (.item (.var 2) (.int 1)) (.cons (.item (.var 2) (.int 2)) .nil))))) .nil) .nil) (.cons (.ite (.cmp .Eq (.var 1) (.int 1)) (.cons (.ret (.methI (.var 0) "order" (.cons (.item (.var 2) (.int 0)) (.cons (.item (.var 2) (.int 1)) (.cons (.item (.var 2) (.int 2)) (.cons (.item (.var 2) (.int 3)) .nil)))))) .nil) .nil) (.cons (.ite (.cmp .Eq (.var 1) (.int 2)) (.cons (.ret (.methI (.var 0) "cancel" (.cons (.var 2) .nil))) .nil) .nil) (.cons (.ret (.methI (.var 0) "go_to" (.cons (.var 2) .nil))) .nil))))
noncomputable def zmj:List Str:=["_law_house","_law_kind_here","_law_parts_here"]
noncomputable def zcw:T:=(.cons (.asgn (.var 1) (.lst false (.cons (.isx (.var 0) false ["BadLot"]) (.cons (.isx (.var 0) false ["BadLine"]) (.cons (.isx (.var 0) false ["Late"]) (.cons (.isx (.var 0) false ["Full"]) .nil)))))) (.cons (.asgn (.var 1) (.bin .Add (.var 1) (.lst false (.cons (.isx (.var 0) false ["NoNumber"]) (.cons (.isx (.var 0) false ["BadDay"]) .nil))))) (.cons (.ite (.bo .Or (.cons (.un .Not (.isx (.var 0) false ["ValueError"])) (.cons (.cmp .NotEq (.meth (.var 1) "count" (.cons (.bool true) .nil)) (.int 1)) (.cons (.isx (.var 0) false ["BadDealing"]) .nil)))) (.cons (.ret (.str "other")) .nil) .nil) (.cons (.ret (.item (.lst false (.cons (.str "bad lot") (.cons (.str "bad line") (.cons (.str "late") (.cons (.str "full") (.cons (.str "no number") (.cons (.str "bad day") .nil))))))) (.meth (.var 1) "index" (.cons (.bool true) .nil)))) .nil))))
noncomputable def zkt:List Str:=["_law_error","_law_kinds"]
noncomputable def zc4:T:=(.cons (.ret (.tup (.cons (.call "_law_kind" (.cons (.var 3) .nil)) (.cons .none .nil)))) .nil)
noncomputable def zgm:T:=(.cons (.ret (.tup (.cons (.str "given") (.cons (.call "_law_act" (.cons (.var 0) (.cons (.var 1) (.cons (.var 2) .nil)))) .nil)))) .nil)
noncomputable def zem:T:=(.cons (.try_ zgm (.cons (.handler "LotError" (some 3) zc4) .nil)) .nil)
noncomputable def zks:List Str:=["_law_house","_law_kind_here","_law_parts_here","_law_error"]
noncomputable def zg9:T:=(.cmp .GtE (.blt .len (.cons (.var 4) .nil)) (.int 100))
noncomputable def zg8:T:=(.bo .And (.cons (.call "_law_right" (.cons (.var 3) .nil)) (.cons (.cmp .Lt (.item (.var 3) (.int 1)) (.item (.var 1) (.str "day"))) .nil)))
noncomputable def zg7:T:=(.un .Not (.call "_law_right" (.cons (.var 3) .nil)))
noncomputable def zg6:T:=(.cmp .NotEq (.item (.var 6) (.int 0)) (.var 5))
noncomputable def zg5:T:=(.cmp .Eq (.var 5) (.str "given"))
noncomputable def zbx:T:=(.cons (.asgn (.var 4) (.item (.lst false (.cons (.item (.var 1) (.str "lots")) (.cons (.item (.var 1) (.str "lines")) .nil))) (.var 2))) (.cons (.asgn (.var 5) (.str "given")) (.cons (.ite (.cut zg9) (.cons (.asgn (.var 5) (.str "full")) .nil) .nil) (.cons (.ite (.cut zg8) (.cons (.asgn (.var 5) (.str "late")) .nil) .nil) (.cons (.ite (.cut zg7) (.cons (.asgn (.var 5) (.item (.lst false (.cons (.str "bad lot") (.cons (.str "bad line") .nil))) (.var 2))) .nil) .nil) (.cons (.asgn (.var 6) (.call "_law_said" (.cons (.var 0) (.cons (.var 2) (.cons (.var 3) .nil))))) (.cons (.ite (.cut zg6) (.cons (.ret (.bool false)) .nil) .nil) (.cons (.ite (.cut zg5) (.cons (.asgn (.var 7) (.item (.item (.var 1) (.str "came")) (.var 2))) (.cons (.asgn (.item (.item (.var 1) (.str "came")) (.var 2)) (.bin .Add (.var 7) (.int 1))) (.cons (.expr (.meth (.var 4) "append" (.cons (.bin .Add (.tup (.cons (.var 7) .nil)) (.blt .tuple (.cons (.var 3) .nil))) .nil))) (.cons (.ret (.bo .And (.cons (.call "_law_whole" (.cons (.item (.var 6) (.int 1)) .nil)) (.cons (.cmp .Eq (.item (.var 6) (.int 1)) (.var 7)) .nil)))) .nil)))) .nil) (.cons (.ret (.bool true)) .nil)))))))))
noncomputable def zmi:List Str:=["_law_house","_law_own","_law_kind_here","_law_parts_here","_law_rows","_law_due","_law_said_here","_law_number"]
noncomputable def zep:T:=(.item (.var 3) (.int 0))
noncomputable def zbm:T:=(.bo .And (.cons (.call "_law_whole" (.cons (.var 2) .nil)) (.cons (.cmp .In (.var 2) (.comp false false zep [3] (.item (.var 1) (.str "lines")) .nil)) .nil)))
noncomputable def zeo:T:=(.var 3)
noncomputable def zeq:T:=(.bo .Or (.cons (.un .Not (.var 4)) (.cons (.cmp .NotEq (.item (.var 3) (.int 0)) (.var 2)) .nil)))
noncomputable def zc8:T:=(.cons (.asgn (.var 4) (.cut zbm)) (.cons (.asgn (.var 5) (.call "_law_said" (.cons (.var 0) (.cons (.int 2) (.cons (.var 2) .nil))))) (.cons (.asgn (.item (.var 1) (.str "lines")) (.comp true true zeo [3] (.item (.var 1) (.str "lines")) zeq)) (.cons (.ret (.cmp .Eq (.var 5) (.tup (.cons (.item (.lst false (.cons (.str "no number") (.cons (.str "given") .nil))) (.blt .int (.cons (.var 4) .nil))) (.cons .none .nil))))) .nil))))
noncomputable def zhq:List Str:=["_law_house","_law_own","_law_number","_law_row","_law_there","_law_said_here"]
noncomputable def zd0:T:=(.bo .And (.cons (.call "_law_whole" (.cons (.var 2) .nil)) (.cons (.cmp2 (.item (.var 1) (.str "day")) .LtE (.var 2) .LtE (.bin .Pow (.int 10) (.int 12))) .nil)))
noncomputable def ziv:T:=(.int 1)
noncomputable def ziy:T:=(.cmp .Lt (.item (.var 5) (.int 2)) (.var 2))
noncomputable def zis:T:=(.bo .And (.cons (.item (.var 1) (.str "known")) (.cons (.cmp .Eq (.blt .len (.cons (.comp false true ziv [5] (.item (.var 1) (.str "lines")) ziy) .nil)) (.int 0)) .nil)))
noncomputable def ziu:T:=(.var 5)
noncomputable def zix:T:=(.un .Not (.cmp .Lt (.item (.var 5) (.int 2)) (.var 2)))
noncomputable def zit:T:=(.var 5)
noncomputable def ziw:T:=(.un .Not (.cmp .Lt (.item (.var 5) (.int 2)) (.var 2)))
noncomputable def zhb:T:=(.cons (.asgn (.var 3) (.cut zd0)) (.cons (.asgn (.var 4) (.call "_law_said" (.cons (.var 0) (.cons (.int 3) (.cons (.var 2) .nil))))) (.cons (.ite (.un .Not (.var 3)) (.cons (.ret (.cmp .Eq (.item (.var 4) (.int 0)) (.str "bad day"))) .nil) .nil) (.cons (.asgn (.item (.var 1) (.str "known")) (.cut zis)) (.cons (.asgn (.item (.var 1) (.str "day")) (.var 2)) (.cons (.asgn (.item (.var 1) (.str "lines")) (.comp true true ziu [5] (.item (.var 1) (.str "lines")) zix)) (.cons (.asgn (.item (.var 1) (.str "lots")) (.comp true true zit [5] (.item (.var 1) (.str "lots")) ziw)) (.cons (.ite (.un .Not (.item (.var 1) (.str "known"))) (.cons (.asgn (.item (.var 1) (.str "lots")) (.methI (.var 0) "there" .nil)) .nil) .nil) (.cons (.ret (.bo .And (.cons (.cmp .Eq (.item (.var 4) (.int 0)) (.str "given")) (.cons (.isi (.item (.var 4) (.int 1)) .list) (.cons (.bo .Or (.cons (.cmp .Eq (.item (.var 4) (.int 1)) (.lst false .nil)) (.cons (.un .Not (.item (.var 1) (.str "known"))) .nil))) .nil))))) .nil)))))))))
noncomputable def zoj:List Str:=["_law_house","_law_own","_law_day","_law_right_here","_law_said_here","_law_row"]
noncomputable def zfl:T:=(.bo .Or (.cons (.un .Not (.call "_law_whole" (.cons (.attr (.var 0) "day") .nil))) (.cons (.cmp .NotEq (.attr (.var 0) "day") (.item (.var 1) (.str "day"))) (.cons (.un .Not (.isi (.var 2) .list)) .nil))))
noncomputable def zfk:T:=(.bo .Or (.cons (.un .Not (.isi (.var 3) .list)) (.cons (.cmp .NotEq (.var 3) (.item (.var 1) (.str "lines"))) (.cons (.cmp .NotEq (.var 2) (.item (.var 1) (.str "lots"))) .nil))))
noncomputable def zfm:T:=(.int 1)
noncomputable def zfn:T:=(.un .Not (.isi (.var 4) .tuple))
noncomputable def zfj:T:=(.cmp .Gt (.blt .len (.cons (.comp false true zfm [4] (.bin .Add (.var 2) (.var 3)) zfn) .nil)) (.int 0))
noncomputable def zd1:T:=(.cons (.asgn (.var 2) (.methI (.var 0) "there" .nil)) (.cons (.asgn (.var 3) (.methI (.var 0) "open_lines" .nil)) (.cons (.ite (.cut zfl) (.cons (.ret (.bool false)) .nil) .nil) (.cons (.ite (.cut zfk) (.cons (.ret (.bool false)) .nil) .nil) (.cons (.ite (.cut zfj) (.cons (.ret (.bool false)) .nil) .nil) (.cons (.expr (.meth (.var 2) "append" (.cons .none .nil))) (.cons (.expr (.meth (.var 3) "append" (.cons .none .nil))) (.cons (.ite (.bo .Or (.cons (.cmp .NotEq (.blt .len (.cons (.methI (.var 0) "there" .nil) .nil)) (.blt .len (.cons (.item (.var 1) (.str "lots")) .nil))) (.cons (.cmp .NotEq (.blt .len (.cons (.methI (.var 0) "open_lines" .nil) .nil)) (.blt .len (.cons (.item (.var 1) (.str "lines")) .nil))) .nil))) (.cons (.ret (.bool false)) .nil) .nil) (.cons (.ret (.bo .And (.cons (.cmp .Eq (.blt .len (.cons (.var 2) .nil)) (.bin .Add (.blt .len (.cons (.item (.var 1) (.str "lots")) .nil)) (.int 1))) (.cons (.cmp .Eq (.blt .len (.cons (.var 3) .nil)) (.bin .Add (.blt .len (.cons (.item (.var 1) (.str "lines")) .nil)) (.int 1))) .nil)))) .nil)))))))))
noncomputable def zi3:List Str:=["_law_house","_law_own","_law_there","_law_lines","_law_row"]
noncomputable def zen:T:=(.cons (.asgn (.var 3) (.item (.lst false (.cons (.int 0) (.cons (.int 0) (.cons (.int 0) (.cons (.int 1) (.cons (.int 1) (.cons (.int 1) (.cons (.int 2) (.cons (.int 3) .nil))))))))) (.bin .Mod (.var 2) (.int 8)))) (.cons (.ite (.cmp .Lt (.var 3) (.int 2)) (.cons (.ret (.call "_law_put" (.cons (.var 0) (.cons (.var 1) (.cons (.var 3) (.cons (.call "_law_parts" (.cons (.var 1) (.cons (.bin .FloorDiv (.var 2) (.int 8)) (.cons (.var 3) .nil)))) .nil)))))) .nil) .nil) (.cons (.ite (.cmp .Eq (.var 3) (.int 2)) (.cons (.asgn (.var 4) (.bin .Sub (.bin .Mod (.call "_law_mixed" (.cons (.var 2) (.cons (.int 9) .nil))) (.bin .Add (.item (.item (.var 1) (.str "came")) (.int 1)) (.int 2))) (.int 1))) (.cons (.ite (.cmp .Eq (.bin .Mod (.bin .FloorDiv (.var 2) (.int 8)) (.int 7)) (.int 3)) (.cons (.asgn (.var 4) (.item (.lst false (.cons (.bool true) (.cons .none (.cons (.str "0") (.cons (.lst false (.cons (.int 0) .nil)) (.cons (.tup (.cons (.int 0) .nil)) (.cons (.dict .nil .nil) .nil))))))) (.bin .Mod (.bin .FloorDiv (.var 2) (.int 56)) (.int 6)))) .nil) .nil) (.cons (.ret (.call "_law_cancel" (.cons (.var 0) (.cons (.var 1) (.cons (.var 4) .nil))))) .nil))) .nil) (.cons (.asgn (.var 5) (.bin .Sub (.bin .Add (.item (.var 1) (.str "day")) (.bin .Mod (.call "_law_mixed" (.cons (.var 2) (.cons (.int 9) .nil))) (.int 5))) (.int 1))) (.cons (.ite (.cmp .Eq (.bin .Mod (.bin .FloorDiv (.var 2) (.int 8)) (.int 7)) (.int 3)) (.cons (.asgn (.var 5) (.item (.lst false (.cons (.bin .Add (.bin .Pow (.int 10) (.int 12)) (.int 1)) (.cons .none (.cons (.bool true) (.cons (.str "5") (.cons (.bin .Sub (.int 0) (.int 1)) .nil)))))) (.bin .Mod (.bin .FloorDiv (.var 2) (.int 56)) (.int 5)))) .nil) .nil) (.cons (.ret (.call "_law_go" (.cons (.var 0) (.cons (.var 1) (.cons (.var 5) .nil))))) .nil))))))
noncomputable def zku:List Str:=["_law_house","_law_own","_law_cell","_law_kind_here","_law_number","_law_day"]
noncomputable def zn5:T:=(.cons (.ite (.un .Not (.call "_law_put" (.cons (.var 2) (.cons (.var 1) (.cons (.var 3) (.cons (.item (.lst false (.cons (.lst false (.cons (.str "a") (.cons (.bin .Add (.int 5) (.bin .Mod (.var 4) (.int 3))) (.cons (.bin .Add (.int 1) (.var 4)) .nil)))) (.cons (.lst false (.cons (.str "a") (.cons (.bin .Add (.int 5) (.bin .Mod (.var 4) (.int 3))) (.cons (.var 4) (.cons (.bin .Add (.int 1) (.var 4)) .nil))))) .nil))) (.var 3)) .nil)))))) (.cons (.ret (.bool false)) .nil) .nil) .nil)
noncomputable def zn4:T:=(.cons (.ite (.bo .Or (.cons (.un .Not (.call "_law_deed" (.cons (.var 2) (.cons (.var 1) (.cons (.var 5) .nil))))) (.cons (.un .Not (.call "_law_alike" (.cons (.var 2) (.cons (.var 1) .nil)))) .nil))) (.cons (.ret (.bool false)) .nil) .nil) .nil)
noncomputable def zki:T:=(.cons (.asgn (.var 1) (.dictL ["base","day","lots","lines","came","known"] (.cons (.bin .FloorDiv (.call "_law_at" (.cons (.var 0) (.cons (.int 0) .nil))) (.int 16)) (.cons (.int 0) (.cons (.lst true .nil) (.cons (.lst true .nil) (.cons (.lst true (.cons (.int 0) (.cons (.int 0) .nil))) (.cons (.bool true) .nil)))))))) (.cons (.asgn (.var 2) (.call "House" .nil)) (.cons (.ite (.cmp .Eq (.bin .Mod (.call "_law_at" (.cons (.var 0) (.cons (.int 0) .nil))) (.int 8)) (.int 5)) (.cons (.asgn (.var 3) (.bin .Mod (.bin .FloorDiv (.call "_law_at" (.cons (.var 0) (.cons (.int 0) .nil))) (.int 8)) (.int 2))) (.cons (.for_ (.var 4) (.blt .range (.cons (.int 98) .nil)) zn5) (.cons (.ite (.bo .And (.cons (.cmp .Eq (.var 3) (.int 0)) (.cons (.cmp .Eq (.bin .Mod (.bin .FloorDiv (.call "_law_at" (.cons (.var 0) (.cons (.int 0) .nil))) (.int 16)) (.int 2)) (.int 1)) .nil))) (.cons (.ite (.bo .Or (.cons (.un .Not (.call "_law_put" (.cons (.var 2) (.cons (.var 1) (.cons (.int 1) (.cons (.lst false (.cons (.str "a") (.cons (.int 0) (.cons (.int 0) (.cons (.int 5) .nil))))) .nil)))))) (.cons (.un .Not (.call "_law_go" (.cons (.var 2) (.cons (.var 1) (.cons (.int 1) .nil))))) .nil))) (.cons (.ret (.bool false)) .nil) .nil) .nil) .nil) .nil))) .nil) (.cons (.for_ (.var 5) (.slice (.var 0) (.int 1) .nil) zn4) (.cons (.ret (.call "_law_alike" (.cons (.var 2) (.cons (.var 1) .nil)))) .nil)))))
noncomputable def zxy:List Str:=["_law_script","_law_own","_law_house","_law_kind_here","_law_k","_law_cell"]
noncomputable def z8v (last:Bool) (i:Int):Bool:=decide ((if last=true then 1 else 0)<=i) && decide (i<=1000000000000)
noncomputable def zdi (n:Nat) (vs:List V):Bool:=zgl (vs.getD 0 .none) && ((List.range' 1 (n - 1)).all fun k=>zcn (vs.getD k .none) (z8v (k+1 == n)))
theorem zql (a b e:V):(zgl a && (zcn b zlv && zcn e zck))=zdi 3 [a,b,e]:=by
 show _=(zgl a && (zcn b zlv && (zcn e zck && true)))
 rw [Bool.and_true]
theorem zmq (a b e f:V):(zgl a && (zcn b zlv && (zcn e zlv && zcn f zck)))=zdi 4 [a,b,e,f]:=by
 show _=(zgl a && (zcn b zlv && (zcn e zlv && (zcn f zck && true))))
 rw [Bool.and_true]
theorem zyg (x:Str):(decide ((0:Int)<((x.cps.toList.filter fun k=>!Txt.contains zbv ⟨#[k]⟩).length:Int)))=!(x.cps.toList.all fun k=>Txt.contains zbv ⟨#[k]⟩):=by
 cases e:x.cps.toList.all fun k=>Txt.contains zbv ⟨#[k]⟩ with
 | true=>
  rw [List.all_eq_true] at e
  rw [List.filter_eq_nil_iff.mpr (fun k hk=>by rw [e k hk];decide)]
  rfl
 | false=>
  rw [List.all_eq_false] at e
  obtain ⟨k,hk,q⟩:=e
  have:0<(x.cps.toList.filter fun k=>!Txt.contains zbv ⟨#[k]⟩).length:=List.length_pos_iff_exists_mem.mpr ⟨k,List.mem_filter.mpr ⟨hk,by simpa using q⟩⟩
  rw [Bool.not_false,decide_eq_true_eq];(exact Ar.l01 (.ilt (.k 0) (.c (.v 0))) [(.lt (.k 0) (.v 0))] (by kernel_rfl) this)
theorem zru {n:Nat} (hn:n=3\/n=4):(zcf 1 (n:Int)).map V.int=(List.range' 1 (n - 1)).map fun k:Nat=>V.int k:=by
 rcases hn with rfl | rfl <;> rfl
theorem z2u (hf:FnT c.k "_law_right" 1 zcl) (hw:FnT c.k "_law_whole" 1 zd9) {n:Nat} (hn:n=3\/n=4) {vs:List V} (hl:vs.length=n) (hvs:∀ v∈vs,OPart v) (h:P (.bool (zdi n vs)) σ):CallN c (d+2) "_law_right" [.lst vs] σ P X:=by
 have hw':FnT c.k "_law_whole" 1 zbj:=hw
 refine zae hf ?_
 obtain ⟨a,r,rfl⟩:∃ a r,vs=a::r:=by
  cases vs with
  | nil=>rcases hn with z | z <;> rw [z] at hl <;> cases hl
  | cons a r=>exact ⟨a,r,rfl⟩
 have ha:=hvs a (.head _)
 have hz:zgl a=false->P (.bool false) σ:=fun e=>by
  unfold zdi at h
  rw [show (a::r).getD 0 .none=a from rfl,e,Bool.false_and] at h;exact h
 cases ha with
 | int=>
  repeat' first | walk_at "x" | refine zag (.lst _) (Int.le_refl 0) rfl ?_
  exact hz rfl
 | bool=>
  repeat' first | walk_at "x" | refine zag (.lst _) (Int.le_refl 0) rfl ?_
  exact hz rfl
 | none=>
  repeat' first | walk_at "x" | refine zag (.lst _) (Int.le_refl 0) rfl ?_ | refine zgj ?_
  exact hz rfl
 | lst=>
  repeat' first | walk_at "x" | refine zag (.lst _) (Int.le_refl 0) rfl ?_
  exact hz rfl
 | @str x hx _=>
  have hs:sizeLine=16777216:=by rw [sizeLine_eq]
  replace hz:zfc x=false->P (.bool false) σ:=hz
  unfold zfc at hz
  repeat' first | walk_at "x" | refine zag (.lst _) (Int.le_refl 0) rfl ?_
  ·rename_i q1 q2
   exact hz (by rw [decide_eq_false q2,Bool.and_false,Bool.false_and])
  ·rename_i q1 q2
   refine ⟨_,[],by simp,zrd (by exact Ar.l02 (.le (.v 0) (.v 1)) [(.le (.v 0) (.k 1000)),(.eq (.v 1) (.k 16777216))] (by kernel_rfl) hx hs),fun D=>?_⟩
   refine zg0 (fun k=>.str ⟨#[k]⟩) (fun k=>.str ⟨#[k]⟩) (fun k=>!Txt.contains zbv ⟨#[k]⟩) x.cps.toList [] (fun k hk=>⟨_,rfl,?_,fun z1=>?_⟩) ?_
   ·walk_at "X"
    exact ⟨rfl,rfl⟩
   ·walk_at "X"
    exact ⟨rfl,rfl⟩
   refine zcj ?_
   rw [List.nil_append]
   refine Leaf.mk ⟨_,List.length_map _,?_⟩
   rw [decide_eq_true q1,decide_eq_true q2,Bool.true_and,Bool.true_and] at hz
   have hw:zgl (.str x)=(x.cps.toList.all fun k=>Txt.contains zbv ⟨#[k]⟩):=by
    show zfc x=_
    unfold zfc
    rw [decide_eq_true q1,decide_eq_true q2,Bool.true_and,Bool.true_and]
   have e:=zyg x
   generalize ((x.cps.toList.filter fun k=>!Txt.contains zbv ⟨#[k]⟩).length:Int)=m at e ⊢
   walk_at "X"
   ·rename_i q
    rw [decide_eq_true q] at e
    exact hz (by simpa using e)
   ·rename_i q
    rw [decide_eq_false q] at e
    have hw1:zgl (.str x)=true:=by rw [hw];simpa using e
    unfold zdi at h
    rw [show (V.str x::r).getD 0 .none=.str x from rfl,hw1,Bool.true_and] at h
    refine ⟨_,hl,?_⟩
    walk_at "X"
    refine ⟨_,[],by simp,zll (by exact Ar.l00 (.ile (.g (.k 1000000000000000)) (.k 1)) [] (by kernel_rfl)) (by exact Ar.l00 (.ile (.k 1) (.k 1000000000000000)) [] (by kernel_rfl)) (by exact Ar.l01 (.ile (.g (.k 1000000000000000)) (.c (.v 0))) [] (by kernel_rfl)) (by lia) (by lia),?_⟩
    rw [zru hn]
    refine zpe (fun k:Nat=>V.int k) (fun z1=>[(0,.lst (.str x::r))]) (fun z1=>σ) (fun (u:Unit) _=>u) (fun rest z1=>(∀ k∈rest,k<n)/\P (.bool (rest.all fun k=>zcn ((V.str x::r).getD k .none) (z8v (k+1 == n)))) σ) (List.range' 1 (n - 1)) () _ ?_ ⟨fun k hk=>by simp at hk;(exact Ar.l02 (.lt (.v 0) (.v 1)) [(.an (.le (.k 1) (.v 0)) (.lt (.v 0) (.a (.k 1) (.s (.v 1) (.k 1)))))] (by kernel_rfl) hk),h⟩ (fun s k rest hj=>?_) fun m hm hj=>?_
    ·walk_at "sub"
    ·obtain ⟨j1,j2⟩:=hj
     have hk:=j1 k (.head _)
     have hnext:∀ k∈rest,k<n:=fun i hi=>j1 i (.tail _ hi)
     rw [List.all_cons] at j2
     have hpk:(V.str x::r)[(k:Int).toNat]?=some ((V.str x::r).getD k .none):=by rw [Int.toNat_natCast];exact getD_get? _ _ _ (by rw [hl];exact hk)
     have hpp:OPart ((V.str x::r).getD k .none):=hvs _ (List.mem_of_getElem? (getD_get? _ _ _ (by rw [hl];exact hk)))
     generalize (V.str x::r).getD k .none=p at j2 hpk hpp
     walk_at "X"
     refine zag (.lst _) (by exact Ar.l01 (.ile (.k 0) (.c (.v 0))) [] (by kernel_rfl)) hpk ?_
     walk_at "X"
     rcases hpp.cases (σ:=σ) with ⟨i,rfl⟩ | hno
     ·refine zdw hw' ?_
      walk_at "X"
      refine ⟨_,hl,?_⟩
      walk_at "X"
      refine zc3 ?_
      rw [show ((k:Int) == (n:Int) - 1)=(k+1 == n) by rw [Bool.eq_iff_iff,beq_iff_eq,beq_iff_eq];exact ⟨fun q=>Int.ofNat.inj (show (k:Int)+1=n by rw [q,Int.sub_add_cancel]),fun q=>by rw [← q,Int.natCast_add];exact (Int.add_sub_cancel _ _).symm⟩]
      replace j2:P (.bool ((decide ((if (k+1 == n)=true then (1:Int) else 0)<=i) && decide (i<=1000000000000)) && _)) σ:=j2
      generalize (if (k+1 == n)=true then (1:Int) else 0)=lo at j2 ⊢
      repeat' first | walk_at "x" | refine zag (.lst _) (by exact Ar.l01 (.ile (.k 0) (.c (.v 0))) [] (by kernel_rfl)) hpk ?_
      ·rename_i q1 q2
       rw [decide_eq_false q2,Bool.and_false,Bool.false_and] at j2;exact j2
      ·rename_i q1 q2
       rw [decide_eq_true q1,decide_eq_true q2,Bool.true_and,Bool.true_and] at j2
       exact ⟨by walk_at "sub",rfl,hnext,j2⟩
      ·rename_i q1
       rw [decide_eq_false q1,Bool.false_and,Bool.false_and] at j2;exact j2
     ·refine zc2 hw' hno ?_
      rw [hno.v,Bool.false_and] at j2
      walk_at "X"
      exact j2
    ·refine za6 hm ?_
     walk_at "X"
     exact hj.2
  ·rename_i q1
   exact hz (by rw [decide_eq_false q1,Bool.false_and,Bool.false_and])
noncomputable abbrev errN:List Str:=["BadLot","BadLine","Late","Full","NoNumber","BadDay","BadDealing"]
noncomputable abbrev kindN:List Str:=["bad lot","bad line","late","full","no number","bad day"]
structure Errs (k:Base) (ad:Str->Addr):Prop where
 lot:Exc k "LotError" (ad "LotError") VE
 all:∀ x∈errN,Exc k x (ad x) (.ref (ad "LotError")::VE)
 nd:((("LotError":Str)::errN).map ad).Nodup
 ve:Blt k "ValueError" (.type "ValueError")
theorem Errs.at {k:Base} {ad:Str->Addr} (hE:Errs k ad) {x:Str} (h:errN.contains x=true):Exc k x (ad x) (.ref (ad "LotError")::VE):=hE.all x (List.contains_iff_mem.mp h)
theorem zlz {a:V} (ha:OPart a) (h:zgl a=true):∃ x,a=.str x/\zq5 x:=by
 cases ha with
 | @str x _ ok=>
  have h:zfc x=true:=h
  exact ⟨x,rfl,Int.ofNat_le.mp (of_decide_eq_true (zaa (zaa (show (decide (1<=(x.length:Int)) && decide ((x.length:Int)<=12) && _)=true from h)).1).2),h,ok⟩
 | _=>cases h
theorem zde {b:V} {f:Int->Bool} (h:zcn b f=true):∃ i,b=.int i/\f i=true:=by
 cases b with
 | int i=>exact ⟨i,rfl,h⟩
 | _=>cases h
theorem zdp {i:Int} (h:zlv i=true):0<=i/\i<=1000000000000:=(zaa h).imp of_decide_eq_true of_decide_eq_true
theorem zdq {i:Int} (h:zck i=true):1<=i/\i<=1000000000000:=(zaa h).imp of_decide_eq_true of_decide_eq_true
theorem zya {a b e:V} (ha:OPart a) (h:zdi 3 [a,b,e]=true):∃ l:Lot,l.ok/\a=.str l.w/\b=.int l.last/\e=.int l.n:=by
 rw [← zql] at h
 have h2:=zaa (zaa h).2
 obtain ⟨x,rfl,w⟩:=zlz ha (zaa h).1
 obtain ⟨i,rfl,e2⟩:=zde h2.1
 obtain ⟨j,rfl,e3⟩:=zde h2.2
 exact ⟨⟨x,i,j⟩,⟨w,(zdp e2).1,(zdp e2).2,(zdq e3).1,(zdq e3).2⟩,rfl,rfl,rfl⟩
theorem zvf {a b e g:V} (ha:OPart a) (h:zdi 4 [a,b,e,g]=true):∃ l:Line,l.ok/\a=.str l.w/\b=.int l.day/\e=.int l.left/\g=.int l.n:=by
 rw [← zmq] at h
 have h2:=zaa (zaa h).2
 have h3:=zaa h2.2
 obtain ⟨x,rfl,w⟩:=zlz ha (zaa h).1
 obtain ⟨i,rfl,e2⟩:=zde h2.1
 obtain ⟨j,rfl,e3⟩:=zde h3.1
 obtain ⟨m,rfl,e4⟩:=zde h3.2
 exact ⟨⟨x,i,j,m⟩,⟨w,(zdp e2).1,(zdp e2).2,(zdp e3).1,(zdp e3).2,(zdq e4).1,(zdq e4).2⟩,rfl,rfl,rfl,rfl⟩
section
variable {f:Str->Value} {H:HA} {S:HS} {ad:Str->Addr}
theorem zso (hE:Errs c.k ad) (hH:Hs c.k f H S σ) {a b e:V} (ha:OPart a) (hb:OPart b) (he:OPart e) (hg:zdi 3 [a,b,e]=false) (h:X (.ref (ad "BadLot")) σ):CallS c (d+4) (f "receive") [.ref H.a,a,b,e] σ P X:=by
 refine zax hH.K.f_receive ?_
 walk_at "H"
 refine z5q hH.K.things ha hb he ?_
 rw [zql,hg]
 walk_at "H"
 refine ⟨_,_,hE.at (x:="BadLot") rfl,?_⟩
 walk_at "H"
 exact h
theorem zwb (hE:Errs c.k ad) (hH:Hs c.k f H S σ) (hF:H.free c.F) (ok:S.Ok) {l:Lot} (hl:l.ok) (h1:l.last<S.day->X (.ref (ad "Late")) σ) (h2:S.day<=l.last->100<=S.lots.length->X (.ref (ad "Full")) σ) (h:S.day<=l.last->S.lots.length<100->∀ σ',Hs c.k f H (S.receive l) σ'->Oth H σ σ'->P (.int S.gave.length) σ') :
  CallS c (d+4) (f "receive") [.ref H.a,.str l.w,.int l.last,.int l.n] σ P X:=by
 have hn:=ok.g
 refine zax hH.K.f_receive ?_
 walk_at "H"
 refine ze6 (l:=l) hH.K.things (by have:=hl.w.hi;(exact Ar.l01 (.le (.v 0) (.k 1000000)) [(.le (.v 0) (.k 12))] (by kernel_rfl) this)) ?_
 rw [hl.b]
 walk_at "H"
 ·rename_i q
  refine ⟨_,_,hE.at (x:="Late") rfl,?_⟩
  walk_at "H"
  exact h1 q
 rename_i hd
 replace hd:=Int.not_lt.mp hd
 refine zd7 hH.l (by rw [zeb,List.length_map];have:=ok.nl;(exact Ar.l01 (.le (.v 0) (.k 1000)) [(.le (.v 0) (.k 100))] (by kernel_rfl) this)) ?_
 rw [zeb,List.length_map]
 walk_at "H"
 ·rename_i q
  refine ⟨_,_,hE.at (x:="Full") rfl,?_⟩
  walk_at "H"
  exact h2 hd (by exact Ar.l01 (.le (.k 100) (.v 0)) [(.ile (.k 100) (.c (.v 0)))] (by kernel_rfl) q)
 rename_i hz
 replace hz:S.lots.length<100:=by (exact Ar.l01 (.lt (.v 0) (.k 100)) [(.no (.ile (.k 100) (.c (.v 0))))] (by kernel_rfl) hz)
 refine zal (.ref hH.g) ?_
 rw [List.length_map]
 walk_at "H"
 refine zq8 (l:=l) hH hF (by have:=ok.nl;(exact Ar.l01 (.le (.v 0) (.k 1000)) [(.lt (.v 0) (.k 100))] (by kernel_rfl) hz)) fun σ₁ h₁ o₁=>?_
 rw [zp3 fun p hp e=>by have:=(ok.lot p hp).2.2;lia] at h₁
 walk_at "H"
 refine ⟨_,_,za9 h₁.g,?_⟩
 walk_at "H"
 refine zz6 h₁ hF (by show S.gave.length<=1000;(exact Ar.l01 (.le (.v 0) (.k 1000)) [(.le (.v 0) (.k 1000))] (by kernel_rfl) hn)) fun σ₂ h₂ o₂=>?_
 walk_at "H"
 refine ⟨_,_,za9 h₂.w,?_⟩
 walk_at "H"
 refine zs1 h₂ hF (by show S.wasted.length<=1000;rw [ok.len];(exact Ar.l01 (.le (.v 0) (.k 1000)) [(.le (.v 0) (.k 1000))] (by kernel_rfl) hn)) fun σ₃ h₃ o₃=>?_
 walk_at "H"
 exact h hd hz σ₃ h₃ ((o₁.trans o₂).trans o₃)
theorem zzh (hE:Errs c.k ad) (hH:Hs c.k f H S σ) {a b e g:V} (ha:OPart a) (hb:OPart b) (he:OPart e) (hg:OPart g) (hq:zdi 4 [a,b,e,g]=false) (h:X (.ref (ad "BadLine")) σ):CallS c (d+4) (f "order") [.ref H.a,a,b,e,g] σ P X:=by
 refine zax hH.K.f_order ?_
 walk_at "H"
 refine z2z hH.K.things ha hb he hg ?_
 rw [zmq,hq]
 walk_at "H"
 refine ⟨_,_,hE.at (x:="BadLine") rfl,?_⟩
 walk_at "H"
 exact h
theorem z2x (hE:Errs c.k ad) (hH:Hs c.k f H S σ) (hF:H.free c.F) (ok:S.Ok) {l:Line} (hl:l.ok) (h1:l.day<S.day->X (.ref (ad "Late")) σ) (h2:S.day<=l.day->100<=S.lines.length->X (.ref (ad "Full")) σ) (h:S.day<=l.day->S.lines.length<100->∀ σ',Hs c.k f H (S.order l) σ'->Oth H σ σ'->P (.int S.came.length) σ') :
  CallS c (d+4) (f "order") [.ref H.a,.str l.w,.int l.day,.int l.left,.int l.n] σ P X:=by
 have hn:=ok.c
 refine zax hH.K.f_order ?_
 walk_at "H"
 refine zdl (l:=l) hH.K.things (by have:=hl.w.hi;(exact Ar.l01 (.le (.v 0) (.k 1000000)) [(.le (.v 0) (.k 12))] (by kernel_rfl) this)) ?_
 rw [hl.b]
 walk_at "H"
 ·rename_i q
  refine ⟨_,_,hE.at (x:="Late") rfl,?_⟩
  walk_at "H"
  exact h1 q
 rename_i hd
 replace hd:=Int.not_lt.mp hd
 refine zd7 hH.n (by rw [zbf,List.length_map];have:=ok.nn;(exact Ar.l01 (.le (.v 0) (.k 1000)) [(.le (.v 0) (.k 100))] (by kernel_rfl) this)) ?_
 rw [zbf,List.length_map]
 walk_at "H"
 ·rename_i q
  refine ⟨_,_,hE.at (x:="Full") rfl,?_⟩
  walk_at "H"
  exact h2 hd (by exact Ar.l01 (.le (.k 100) (.v 0)) [(.ile (.k 100) (.c (.v 0)))] (by kernel_rfl) q)
 rename_i hz
 replace hz:S.lines.length<100:=by (exact Ar.l01 (.lt (.v 0) (.k 100)) [(.no (.ile (.k 100) (.c (.v 0))))] (by kernel_rfl) hz)
 refine zal (.ref hH.m) ?_
 rw [List.length_map]
 walk_at "H"
 refine zv7 (l:=l) hH hF (by have:=ok.nn;(exact Ar.l01 (.le (.v 0) (.k 1000)) [(.lt (.v 0) (.k 100))] (by kernel_rfl) hz)) fun σ₁ h₁ o₁=>?_
 rw [zp3 fun p hp e=>by have:=(ok.line p hp).2.2;lia] at h₁
 walk_at "H"
 refine ⟨_,_,za9 h₁.m,?_⟩
 walk_at "H"
 refine zz7 h₁ hF (by show S.came.length<=1000;(exact Ar.l01 (.le (.v 0) (.k 1000)) [(.le (.v 0) (.k 1000))] (by kernel_rfl) hn)) fun σ₂ h₂ o₂=>?_
 walk_at "H"
 exact h hd hz σ₂ h₂ (o₁.trans o₂)
theorem zzk (hH:Hs c.k f H S σ) (hF:H.free c.F) (ok:S.Ok) {p:Int × Line} (hp:p∈S.lines) (h:∀ σ',Hs c.k f H (S.cancel p.1) σ'->Oth H σ σ'->P .none σ') :
  CallS c (d+2) (f "cancel") [.ref H.a,.int p.1] σ P X:=by
 refine zax hH.K.f_cancel ?_
 walk_at "H"
 refine zct hH.K.things ?_
 walk_at "H"
 refine zd6 hH.n ?_
 rw [zbf,z16 hp]
 walk_at "H"
 refine ⟨_,_,ze7 hH.n,?_⟩
 walk_at "H"
 refine zm7 hH hF ok.ndn (by have:=ok.nn;(exact Ar.l01 (.le (.v 0) (.k 1000)) [(.le (.v 0) (.k 100))] (by kernel_rfl) this)) hp fun σ₁ h₁ o₁=>?_
 walk_at "H"
 exact zgy (h σ₁ h₁ o₁)
theorem zwh (hE:Errs c.k ad) (hH:Hs c.k f H S σ) {v:V} (hv:NotInt σ v) (h:X (.ref (ad "NoNumber")) σ):CallS c (d+2) (f "cancel") [.ref H.a,v] σ P X:=by
 refine zax hH.K.f_cancel ?_
 walk_at "H"
 refine zc2 hH.K.things.f_is_whole hv ?_
 walk_at "H"
 refine ⟨_,_,hE.at (x:="NoNumber") rfl,?_⟩
 walk_at "H"
 exact h
theorem zwi (hE:Errs c.k ad) (hH:Hs c.k f H S σ) {i:Int} (hi:∀ p∈S.lines,p.1≠i) (h:X (.ref (ad "NoNumber")) σ):CallS c (d+2) (f "cancel") [.ref H.a,.int i] σ P X:=by
 refine zax hH.K.f_cancel ?_
 walk_at "H"
 refine zct hH.K.things ?_
 walk_at "H"
 refine zd6 hH.n ?_
 have e:((zbf S.lines).any fun kv=>decide (kv.1=i))=false:=by
  rw [zbf,List.any_map,List.any_eq_false]
  exact fun p hp=>by simpa using hi p hp
 rw [e]
 walk_at "H"
 refine ⟨_,_,hE.at (x:="NoNumber") rfl,?_⟩
 walk_at "H"
 exact h
theorem zzi (hE:Errs c.k ad) (hH:Hs c.k f H S σ) {v:V} (hv:NotInt σ v) (h:X (.ref (ad "BadDay")) σ):CallS c (d+8) (f "go_to") [.ref H.a,v] σ P X:=by
 refine zax hH.K.f_go_to ?_
 walk_at "H"
 refine zc2 hH.K.things.f_is_whole hv ?_
 walk_at "H"
 refine ⟨_,_,hE.at (x:="BadDay") rfl,?_⟩
 walk_at "H"
 exact h
theorem zzj (hE:Errs c.k ad) (hH:Hs c.k f H S σ) {i:Int} (hi:¬ (S.day<=i/\i<=1000000000000)) (h:X (.ref (ad "BadDay")) σ):CallS c (d+8) (f "go_to") [.ref H.a,.int i] σ P X:=by
 refine zax hH.K.f_go_to ?_
 walk_at "H"
 refine zct hH.K.things ?_
 walk_at "H"
 ·refine ⟨_,_,hE.at (x:="BadDay") rfl,?_⟩
  walk_at "H"
  exact h
 ·rename_i q1 q2;exact absurd ⟨q1,q2⟩ hi
 ·refine ⟨_,_,hE.at (x:="BadDay") rfl,?_⟩
  walk_at "H"
  exact h
end
structure L11 (k:Base):Prop extends Helps k where
 f_law_whole:FnT k "_law_whole" 1 zd9
 f_law_wide:FnT k "_law_wide" 1 zel
 f_law_parts:FnT k "_law_parts" 3 zbd
 f_law_right:FnT k "_law_right" 1 zcl
 f_law_act:FnT k "_law_act" 3 zf7
 f_law_kind:FnT k "_law_kind" 1 zcw
 f_law_said:FnT k "_law_said" 3 zem
 f_law_put:FnT k "_law_put" 4 zbx
 f_law_cancel:FnT k "_law_cancel" 3 zc8
 f_law_go:FnT k "_law_go" 3 zhb
 f_law_alike:FnT k "_law_alike" 2 zd1
 f_law_deed:FnT k "_law_deed" 3 zen
 f_law:FnT k "law" 1 zki
 house:∃ C f,znq k C f
 errs:∃ ad,Errs k ad
section
variable {ad:Str->Addr} {i j:Nat} {x y:Str} {e:Addr}
theorem Errs.same (hE:Errs c.k ad) (hx:errN[i]?=some x) (hy:errN[j]?=some y):(Value.ref (ad x)::.ref (ad "LotError")::VE).contains (.ref (ad y))=(i == j):=by
 have nd:=hE.nd
 have key:∀ {m n:Nat} {u v:Str},(("LotError":Str)::errN)[m]?=some u->(("LotError":Str)::errN)[n]?=some v->(Value.ref (ad v) == .ref (ad u))=(m == n):=fun {m n u v} hu hv=>by
  have hm:m<((("LotError":Str)::errN).map ad).length:=by rw [List.length_map];exact (List.getElem?_eq_some_iff.mp hu).1
  rw [Bool.eq_iff_iff,beq_iff_eq,beq_iff_eq]
  constructor
  ·intro q
   refine (List.getElem?_inj hm nd).mp ?_
   rw [List.getElem?_map,List.getElem?_map,hu,hv,Option.map_some,Option.map_some]
   injection q with q;rw [q]
  ·intro q
   subst q
   rw [hu] at hv;cases hv;rfl
 rw [List.contains_cons,List.contains_cons,key (m:=i+1) (n:=j+1) hx hy,key (m:=0) (n:=j+1) rfl hy]
 have:(0 == j+1)=false:=rfl
 rw [this,Bool.false_or,show VE.contains (.ref (ad y))=false from rfl,Bool.or_false]
 rw [Bool.eq_iff_iff,beq_iff_eq,beq_iff_eq]
 exact ⟨fun q=>Nat.succ.inj q,fun q=>by rw [q]⟩
theorem Errs.isx (hE:Errs c.k ad) (he:σ.lookup e=some (.exc (ad x))) (hx:errN[i]?=some x) (hy:errN[j]?=some y) {n:Nat} (hv:ρ.lookup n=some (.ref e)) (h:P (.bool (i == j)) σ):zzy c.un d X (.var n) false [y] ρ σ P:=by
 have h1:=hE.all x (List.mem_of_getElem? hx)
 have h2:=hE.all y (List.mem_of_getElem? hy)
 refine ⟨y,_,rfl,rfl,.own (C:=ad y) ⟨h2.mg,h2.own⟩,zwq hv (zww (c:=c.un) he h1.own (.own h2.own) ?_)⟩
 rw [hE.same hx hy];exact h
theorem Errs.isv (hE:Errs c.k ad) (he:σ.lookup e=some (.exc (ad x))) (hx:errN[i]?=some x) {n:Nat} (hv:ρ.lookup n=some (.ref e)) (h:P (.bool true) σ):zzy c.un d X (.var n) false ["ValueError"] ρ σ P:=
 ⟨_,_,rfl,rfl,.ve hE.ve,zwq hv (zww (c:=c.un) he (hE.all x (List.mem_of_getElem? hx)).own .ve h)⟩
noncomputable def z5a (i:Nat):List Bool:=[i == 0,i == 1,i == 2,i == 3,i == 4,i == 5]
theorem z78:∀ i,i<6->(z5a i).count true=1/\(z5a i)[i]?=some true/\(∀ m,m<i->(z5a i)[m]?=some false)/\(i == 6)=false:=by decide
theorem zu1:z7p zcw:=fun z1 z2 z3 z4=>rfl
theorem z5r (hp:L11 c.k) (hE:Errs c.k ad) (he:σ.lookup e=some (.exc (ad x))) (hi:i<6) (hx:errN[i]?=some x) (hy:kindN[i]?=some y) (h:P (.str y) σ):CallN c.un (d+1) "_law_kind" [.ref e] σ P X:=by
 obtain ⟨b1,b2,b3,b4⟩:=z78 i hi
 refine zae (hp.f_law_kind.un zu1) ?_
 walk_at "X"
 refine hE.isx (j:=0) he hx rfl rfl ?_
 walk_at "X"
 refine hE.isx (j:=1) he hx rfl rfl ?_
 walk_at "X"
 refine hE.isx (j:=2) he hx rfl rfl ?_
 walk_at "X"
 refine hE.isx (j:=3) he hx rfl rfl ?_
 walk_at "X"
 refine hE.isx (j:=4) he hx rfl rfl ?_
 walk_at "X"
 refine hE.isx (j:=5) he hx rfl rfl ?_
 walk_at "X"
 refine zpb (.lst _) (.lst _) (by simp) ?_
 walk_at "X"
 refine hE.isv he hx rfl ?_
 walk_at "X"
 refine ⟨_,_,zsr (.lst _),?_⟩
 walk_at "X"
 refine zs0 (bs:=z5a i) (.lst _) ?_
 rw [b1]
 walk_at "X"
 refine hE.isx (j:=6) he hx rfl rfl ?_
 rw [b4]
 walk_at "X"
 refine ⟨_,_,zsq (.lst _),?_⟩
 walk_at "X"
 refine zsz (bs:=z5a i) (.lst _) b2 b3 (by exact Ar.l01 (.lt (.v 0) (.k 1000)) [(.lt (.v 0) (.k 6))] (by kernel_rfl) hi) ?_
 walk_at "X"
 refine zag (.lst _) (Int.natCast_nonneg i) (w:=.str y) ?_ ?_
 ·show (kindN.map V.str)[(i:Int).toNat]?=_
  rw [Int.toNat_natCast,List.getElem?_map,hy];rfl
 walk_at "X"
 exact h
inductive z2t (ad:Str->Addr) (P:V->Led->Prop):XP
 | mk (i:Nat) {x y:Str} {σ':Led}:i<6->errN[i]?=some x->kindN[i]?=some y->NoExc σ'->P (.tup [.str y,.none]) σ'->z2t ad P (.ref (ad x)) σ'
theorem zty:z7p zc4:=fun z1 z2 z3 z4=>rfl
theorem zd5 (hp:L11 c.k) (hE:Errs c.k ad) {a b v:V} (h:CallN c (d+1) "_law_act" [a,b,v] σ (fun w σ'=>P (.tup [.str "given",w]) σ') (z2t ad P)):CallN c (d+2) "_law_said" [a,b,v] σ P X:=by
 refine zae hp.f_law_said ?_
 walk_at "X"
 refine ⟨z2t ad P,?_,fun cls σ' hx=>?_⟩
 ·walk_at "X"
  refine CallN.mono h fun w σ' q=>?_
  walk_at "X"
  exact q
 ·obtain ⟨i,hi,hx,hy,nx,q⟩:=hx
  have hB:=hE.all _ (List.mem_of_getElem? hx)
  refine ⟨_,rfl,nx,z8l hB.own hE.lot (by rw [List.contains_cons,List.contains_cons,beq_self_eq_true,Bool.true_or,Bool.or_true]) fun e=>z8p zty (zc5 ?_)⟩
  walk_at "X"
  refine z5r hp hE zai hi hx hy ?_
  exact zp1 (.cons _ (.refl _)) q
end
noncomputable def zl1:Nat->T->T
 | 0,t=>t
 | n+1,t=>onC t (fun z1 r=>zl1 n r) t
noncomputable def zjt (o:O):Bool:=o.casesOn (fun z1=>true) (fun z1=>true) (fun z1=>true) (fun z1 z2 z3=>true) (fun z1=>false)
theorem All.noExc {L σ':Led} (h:All L σ') (o:∀ b,b∉L.map (·.1)->σ'.lookup b=σ.lookup b) (hn:NoExc σ) (hx:L.all (fun p=>zjt p.2)=true):NoExc σ':=fun a C e=>by
 by_cases q:a∈L.map (·.1)
 ·obtain ⟨p,hp,rfl⟩:=List.mem_map.mp q
  have h1:=h p hp
  rw [e] at h1
  have h2:=List.all_eq_true.mp hx p hp
  rw [← Option.some.inj h1] at h2
  exact Bool.false_ne_true h2
 ·rw [o a q] at e;exact hn a C e
theorem NoExc.cons {b:Addr} {o:O} (h:NoExc σ) (ho:zjt o=true):NoExc ((b,o)::σ):=fun a C e=>by
 rw [List.lookup_cons] at e
 cases q:a == b with
 | true=>rw [q] at e;cases e;exact Bool.false_ne_true ho
 | false=>rw [q] at e;exact h a C e
theorem NoExc.upd {b:Addr} {o o':O} (h:NoExc σ) (hl:σ.lookup b=some o') (ho:zjt o=true):NoExc (upd b o σ):=fun a C e=>by
 rw [zbb hl] at e
 by_cases q:a=b
 ·rw [if_pos q] at e;cases e;exact Bool.false_ne_true ho
 ·rw [if_neg q] at e;exact h a C e
structure OB where
 o:Addr
 a:Addr
 b:Addr
 m:Addr
structure BK where
 base:Int
 day:Int
 L:List V
 N:List V
 i:Int
 j:Int
 kn:Bool
noncomputable def OB.parts (B:OB):List Addr:=[B.o,B.a,B.b,B.m]
noncomputable def OB.kv (B:OB) (K:BK):List (Str × V):=[("base",.int K.base),("day",.int K.day),("lots",.ref B.a),("lines",.ref B.b),("came",.ref B.m),("known",.bool K.kn)]
noncomputable def OB.objs (B:OB) (K:BK):Led:=[(B.o,.dictS (B.kv K)),(B.a,.list K.L),(B.b,.list K.N),(B.m,.list [.int K.i,.int K.j])]
structure Tv (k:Base) (f:Str->Value) (H:HA) (S:HS) (B:OB) (K:BK) (σ:Led):Prop where
 h:Hs k f H S σ
 nd:B.parts.Nodup
 all:All (B.objs K) σ
 sp:∀ x∈H.parts,x∉B.parts
 nx:NoExc σ
section
variable {k:Base} {f:Str->Value} {H:HA} {S S':HS} {B B':OB} {K K':BK} {σ':Led}
theorem Tv.o (A:Tv k f H S B K σ):σ.lookup B.o=some (.dictS (B.kv K)):=A.all (B.o,_) (.head _)
theorem Tv.a (A:Tv k f H S B K σ):σ.lookup B.a=some (.list K.L):=A.all (B.a,_) (.tail _ (.head _))
theorem Tv.b (A:Tv k f H S B K σ):σ.lookup B.b=some (.list K.N):=A.all (B.b,_) (.tail _ (.tail _ (.head _)))
theorem Tv.m (A:Tv k f H S B K σ):σ.lookup B.m=some (.list [.int K.i,.int K.j]):=A.all (B.m,_) (.tail _ (.tail _ (.tail _ (.head _))))
theorem Tv.upH (A:Tv k f H S B K σ) (h:Hs k f H S' σ') (o:Oth H σ σ'):Tv k f H S' B K σ':=
 ⟨h,A.nd,A.all.of fun x hx z e=>(o x fun q=>A.sp x q hx).trans e,A.sp,h.all.noExc o A.nx rfl⟩
theorem Tv.put {a:Addr} {o o':O} (A:Tv k f H S B K σ) (i:Nat) (hi:(B.objs K)[i]?=some (a,o')) (e:B.objs K'=(B.objs K).set i (a,o)) (ho:zjt o=true):Tv k f H S B K' (upd a o σ):=by
 have hl:=A.all _ (List.mem_of_getElem? hi)
 have ha:a∈B.parts:=List.mem_map_of_mem (f:=Prod.fst) (List.mem_of_getElem? hi)
 exact ⟨A.h.other (fun q=>A.sp a q ha) hl,A.nd,e ▸ A.all.put A.nd i hi,A.sp,A.nx.upd hl ho⟩
theorem Tv.cons {b:Addr} {o:O} (A:Tv k f H S B K σ) (hb:b∉zab σ) (ho:zjt o=true):Tv k f H S B K ((b,o)::σ):=
 ⟨A.h.cons hb,A.nd,A.all.of fun x hx z e=>zam (za2 e hb) e,A.sp,A.nx.cons ho⟩
theorem Tv.new {b:Addr} {vs:List V} {kv:List (Str × V)} (A:Tv k f H S B K σ) (hb:b∉zab σ) (i:Nat) (ep:B'.parts=B.parts.set i b) (eo:((B.objs K).set i (b,.list vs))[0]?=some (B.o,.dictS (B.kv K))) (e:B'.objs K'=((B.objs K).set i (b,.list vs)).set 0 (B.o,.dictS kv)):Tv k f H S B' K' (upd B.o (.dictS kv) ((b,.list vs)::σ)):=by
 have hl:((b,O.list vs)::σ).lookup B.o=some (.dictS (B.kv K)):=zam (za2 A.o hb) A.o
 have hbp:b∉B.parts:=A.all.notin hb
 have nd:(((B.objs K).set i (b,.list vs)).map (·.1)).Nodup:=by rw [List.map_set];exact zju hbp i A.nd
 refine ⟨(A.h.cons hb).other (fun q=>A.sp _ q (.head _)) hl,by rw [ep];exact zju hbp i A.nd,?_,fun x hx q=>?_,(A.nx.cons rfl).upd hl rfl⟩
 ·rw [e];exact (A.all.new1 hb i).put nd 0 eo
 ·rw [ep] at q
  rcases List.mem_or_eq_of_mem_set q with q | q
  ·exact A.sp x hx q
  ·exact A.h.notin hb (q ▸ hx)
end
section
variable {f:Str->Value} {H:HA} {S S':HS} {B:OB} {K K1 K2:BK} {ad:Str->Addr}
theorem Tv.item {x:Str} {v:V} (A:Tv c.k f H S B K σ) (e:(B.kv K).lookup x=some v) (h:P v σ):zln c d (.ref B.o) (.str x) σ P:=zsu A.o e h
theorem zzg (hp:L11 c.k) (A:Tv c.k f H S B K σ) (hB:∀ x∈B.parts,x∉c.F) {kind num t:Int} {n q:Nat} {r:Addr} {vs rows:List V} {bad due:Str}
  (k0:0<=kind) (hn:n=3\/n=4) (hl:vs.length=n) (hvs:∀ v∈vs,OPart v) (hr:[V.ref B.a,.ref B.b][kind.toNat]?=some (.ref r)) (hrows:σ.lookup r=some (.list rows)) (hrl:rows.length<=1000)
  (hbad:[V.str "bad lot",.str "bad line"][kind.toNat]?=some (.str bad)) (hbg:bad≠"given") (hnum:[V.int K.i,.int K.j][kind.toNat]?=some (.int num)) (ht:zdi n vs=true->vs[(1:Int).toNat]?=some (.int t))
  (hdue:due=if zdi n vs=true then if t<K.day then ("late":Str) else if (100:Int)<=rows.length then ("full":Str) else "given" else bad)
  (hsaid:∀ Q:V->Led->Prop,(due≠"given"->Q (.tup [.str due,.none]) σ)->(due="given"->∀ σ',Tv c.k f H S' B K σ'->Q (.tup [.str "given",.int num]) σ')->CallN c (d+6) "_law_said" [.ref H.a,.int kind,.lst vs] σ Q X)
  (e1:B.objs K1=(B.objs K).set 3 (B.m,.list ([V.int K.i,.int K.j].set kind.toNat (.int (num+1))))) (q0:(B.objs K)[q]?=some (r,.list rows)) (q1:(B.objs K1)[q]?=some (r,.list rows)) (e2:B.objs K2=(B.objs K1).set q (r,.list (rows++[.tup (.int num::vs)])))
  (h1:due≠"given"->P (.bool true) σ) (h2:due="given"->∀ σ',Tv c.k f H S' B K2 σ'->P (.bool true) σ') :
  CallN c (d+7) "_law_put" [.ref H.a,.ref B.o,.int kind,.lst vs] σ P X:=by
 have hright:∀ {P:V->Led->Prop},P (.bool (zdi n vs)) σ->CallN c (d+6) "_law_right" [.lst vs] σ P X:=fun h=>z2u hp.f_law_right hp.f_law_whole hn hl hvs h
 have hrp:r∉c.F:=hB r (List.mem_map_of_mem (f:=Prod.fst) (List.mem_of_getElem? q0))
 have L5:JB c (d+6) X (zl1 5 zbx) [(5,.str due),(4,.ref r),(3,.lst vs),(2,.int kind),(1,.ref B.o),(0,.ref H.a)] σ (zw5 P):=by
  refine zc5 ?_
  walk_at "X"
  refine hsaid _ (fun hd=>?_) (fun hd σ₁ A₁=>?_)
  ·walk_at "X"
   refine ⟨false,fun Q hQ=>?_,?_⟩
   ·refine zf4 ?_
    show Q (due != due) σ
    rw [bne_self_eq_false]
    exact hQ
   walk_at "X"
   refine zc5 ?_
   walk_at "X"
   refine ⟨false,fun Q hQ=>?_,?_⟩
   ·refine zf4 ?_
    show Q (due == ("given":Str)) σ
    rw [beq_eq_false_iff_ne.mpr hd]
    exact hQ
   walk_at "X"
   refine zc5 ?_
   walk_at "X"
   exact h1 hd
  ·subst hd
   walk_at "X"
   refine ⟨false,fun Q hQ=>?_,?_⟩
   ·refine zf4 ?_
    walk_at "X"
    exact hQ
   walk_at "X"
   refine zc5 ?_
   walk_at "X"
   refine ⟨true,fun Q hQ=>?_,?_⟩
   ·refine zf4 ?_
    walk_at "X"
    exact hQ
   walk_at "X"
   refine A₁.item rfl ?_
   walk_at "X"
   refine zag (.ref A₁.m) k0 hnum ?_
   walk_at "X"
   refine A₁.item rfl ?_
   walk_at "X"
   refine zdt A₁.m (hB _ (.tail _ (.tail _ (.tail _ (.head _))))) k0 (List.getElem?_eq_some_iff.mp hnum).1 ?_
   have A₂:=A₁.put 3 rfl e1 rfl
   have hr₂:=A₂.all _ (List.mem_of_getElem? q1)
   walk_at "X"
   refine ⟨_,_,za9 hr₂,?_⟩
   walk_at "X"
   refine zsy (.lst _) ?_
   walk_at "X"
   refine zpa (by simp) (fun z=>by rw [z] at hl;simp at hl;lia) (by rw [hl];simp;lia) ?_
   walk_at "X"
   refine zba hr₂ hrp (by exact Ar.l01 (.lt (.v 0) (.k 16777216)) [(.le (.v 0) (.k 1000))] (by kernel_rfl) hrl) ?_
   have A₃:=A₂.put q q1 e2 rfl
   walk_at "X"
   refine zdw (x:="_law_whole") hp.f_law_whole ?_
   walk_at "X"
   rw [beq_self_eq_true]
   exact h2 rfl _ A₃
 refine zae hp.f_law_put ?_
 walk_at "X"
 refine A.item rfl ?_
 walk_at "X"
 refine A.item rfl ?_
 walk_at "X"
 refine zag (.lst _) k0 hr ?_
 walk_at "X"
 have L3:∀ s:Str,s=(if (100:Int)<=rows.length then ("full":Str) else "given")->JB c (d+6) X (zl1 3 zbx) [(5,.str s),(4,.ref r),(3,.lst vs),(2,.int kind),(1,.ref B.o),(0,.ref H.a)] σ (zw5 P):=by
  intro s hs
  refine zc5 ?_
  walk_at "X"
  refine ⟨zdi n vs && decide (t<K.day),fun Q hQ=>?_,?_⟩
  ·refine zf4 ?_
   walk_at "X"
   refine hright ?_
   walk_at "X"
   ·rename_i hg
    rw [hg,Bool.true_and] at hQ
    refine zag (.lst _) (by exact Ar.l00 (.ile (.k 0) (.k 1)) [] (by kernel_rfl)) (ht hg) ?_
    walk_at "X"
    refine A.item rfl ?_
    walk_at "X"
    ·rename_i z
     rw [decide_eq_true z] at hQ
     exact hQ
    ·rename_i z
     rw [decide_eq_false z] at hQ
     exact hQ
   ·rename_i hg
    rw [hg,Bool.false_and] at hQ
    exact hQ
  have L4:∀ s':Str,s'=(if (zdi n vs && decide (t<K.day))=true then ("late":Str) else s)->JB c (d+6) X (zl1 4 zbx) [(5,.str s'),(4,.ref r),(3,.lst vs),(2,.int kind),(1,.ref B.o),(0,.ref H.a)] σ (zw5 P):=by
   intro s' hs'
   refine zc5 ?_
   walk_at "X"
   rw [hs] at hs'
   cases hg:zdi n vs with
   | true=>
    refine ⟨false,fun Q hQ=>?_,?_⟩
    ·refine zf4 ?_
     walk_at "X"
     refine hright ?_
     rw [hg]
     walk_at "X"
     exact hQ
    rw [hg,Bool.true_and] at hs'
    rw [hg,if_pos rfl] at hdue
    simp only [decide_eq_true_eq] at hs'
    rw [← hdue] at hs'
    subst hs'
    walk_at "X"
    exact L5
   | false=>
    refine ⟨true,fun Q hQ=>?_,?_⟩
    ·refine zf4 ?_
     walk_at "X"
     refine hright ?_
     rw [hg]
     walk_at "X"
     exact hQ
    rw [hg,if_neg (by decide)] at hdue
    subst hdue
    walk_at "X"
    refine zag (.lst _) k0 hbad ?_
    walk_at "X"
    refine za6 ?_ L5
    walk_at "sub"
  walk_at "X"
  ·rename_i z
   refine za6 ?_ (L4 _ (by rw [if_pos z]))
   walk_at "sub"
  ·rename_i z
   refine za6 ?_ (L4 _ (by rw [if_neg (by rw [z];decide)]))
   walk_at "sub"
 refine ⟨decide ((100:Int)<=rows.length),fun Q hQ=>?_,?_⟩
 ·refine zf4 ?_
  walk_at "X"
  refine zal (.ref hrows) ?_
  walk_at "X"
  exact hQ
 walk_at "X"
 ·rename_i z
  refine za6 ?_ (L3 _ (by rw [if_pos z]))
  walk_at "sub"
 ·rename_i z
  refine za6 ?_ (L3 _ (by rw [if_neg z]))
  walk_at "sub"
end
structure Tw (k:Base) (F:List Addr) (f:Str->Value) (H:HA) (S:HS) (B:OB) (base:Int) (kn:Bool) (σ:Led):Prop where
 t:Tv k f H S B ⟨base,S.day,S.lots.map zak,S.lines.map zac,S.gave.length,S.came.length,kn⟩ σ
 ok:S.Ok
 hF:H.free F
 hB:∀ x∈B.parts,x∉F
def Nx (c:Cx) (f:Str->Value) (H:HA) (o:Addr) (base:Int) (n:Nat) (P:V->Led->Prop):Prop:=∀ S' B' kn' σ',Tw c.k c.F f H S' B' base kn' σ'->B'.o=o->S'.gave.length+S'.came.length<=n->P (.bool true) σ'
section
variable {f:Str->Value} {H:HA} {S:HS} {B:OB} {base:Int} {kn:Bool}
theorem z0q (hp:L11 c.k) (hH:Hs c.k f H S σ) {a b e:V} (h:CallS c d (f "receive") [.ref H.a,a,b,e] σ P X):CallN c (d+1) "_law_act" [.ref H.a,.int 0,.lst [a,b,e]] σ P X:=by
 refine zae hp.f_law_act ?_
 walk_at "X"
 refine ⟨_,mth hH rfl rfl rfl,?_⟩
 repeat' first | walk_at "x" | refine zag (.lst _) (by decide) rfl ?_
 exact h.mono fun v σ' q=>zas q
theorem z0p (hp:L11 c.k) (hH:Hs c.k f H S σ) {a b e g:V} (h:CallS c d (f "order") [.ref H.a,a,b,e,g] σ P X):CallN c (d+1) "_law_act" [.ref H.a,.int 1,.lst [a,b,e,g]] σ P X:=by
 refine zae hp.f_law_act ?_
 walk_at "X"
 refine ⟨_,mth hH rfl rfl rfl,?_⟩
 repeat' first | walk_at "x" | refine zag (.lst _) (by decide) rfl ?_
 exact h.mono fun v σ' q=>zas q
theorem zwl (hp:L11 c.k) (hH:Hs c.k f H S σ) {v:V} (h:CallS c d (f "cancel") [.ref H.a,v] σ P X):CallN c (d+1) "_law_act" [.ref H.a,.int 2,v] σ P X:=by
 refine zae hp.f_law_act ?_
 walk_at "X"
 refine ⟨_,mth hH rfl rfl rfl,?_⟩
 walk_at "X"
 exact h.mono fun v σ' q=>zas q
theorem zwk (hp:L11 c.k) (hH:Hs c.k f H S σ) {v:V} (h:CallS c d (f "go_to") [.ref H.a,v] σ P X):CallN c (d+1) "_law_act" [.ref H.a,.int 3,v] σ P X:=by
 refine zae hp.f_law_act ?_
 walk_at "X"
 refine ⟨_,mth hH rfl rfl rfl,?_⟩
 walk_at "X"
 exact h.mono fun v σ' q=>zas q
theorem z0n (hp:L11 c.k) (A:Tw c.k c.F f H S B base kn σ) {o:Addr} (eo:B.o=o) {a b e:V} (ha:OPart a) (hb:OPart b) (he:OPart e) (hn:S.gave.length+S.came.length<1000) (h:Nx c f H o base (S.gave.length+S.came.length+1) P) :
  CallN c (d+7) "_law_put" [.ref H.a,.ref o,.int 0,.lst [a,b,e]] σ P X:=by
 subst eo
 obtain ⟨ad,hE⟩:=hp.errs
 have hvs:∀ v∈[a,b,e],OPart v:=all_cons ha (all_cons hb (all_cons he zbc))
 have hnl:(S.lots.map zak).length<=1000:=by rw [List.length_map];have:=A.ok.nl;(exact Ar.l01 (.le (.v 0) (.k 1000)) [(.le (.v 0) (.k 100))] (by kernel_rfl) this)
 have hid:P (.bool true) σ:=h S B kn σ A rfl (Nat.le_succ _)
 have hH:=A.t.h
 by_cases hg:zdi 3 [a,b,e]=true
 ·obtain ⟨l,hl,rfl,rfl,rfl⟩:=zya ha hg
  refine zzg (S':=S.receive l) (K1:=⟨base,S.day,S.lots.map zak,S.lines.map zac,S.gave.length+1,S.came.length,kn⟩) (K2:=⟨base,S.day,S.lots.map zak++[_],S.lines.map zac,S.gave.length+1,S.came.length,kn⟩) (t:=l.last) (q:=1) (bad:="bad lot") (due:=if l.last<S.day then ("late":Str) else if (100:Int)<=(S.lots.map zak).length then ("full":Str) else "given")
   hp A.t A.hB (Int.le_refl 0) (.inl rfl) rfl hvs rfl A.t.a hnl rfl (by decide) rfl (fun z1=>rfl) (by rw [if_pos hg]) (fun Q q1 q2=>?_) rfl rfl rfl rfl (fun z1=>hid) (fun hd σ' A'=>?_)
  ·refine zd5 hp hE (z0q hp hH ?_)
   rw [List.length_map] at q1 q2
   refine zwb hE hH A.hF A.ok hl (fun z=>?_) (fun z1 z2=>?_) (fun z1 z2 σ' h' o'=>?_)
   ·rw [if_pos z] at q1
    exact .mk 2 (by decide) rfl rfl A.t.nx (q1 (by decide))
   ·rw [if_neg (Int.not_lt.mpr z1),if_pos (by exact Ar.l01 (.ile (.k 100) (.c (.v 0))) [(.le (.k 100) (.v 0))] (by kernel_rfl) z2)] at q1
    exact .mk 3 (by decide) rfl rfl A.t.nx (q1 (by decide))
   ·rw [if_neg (Int.not_lt.mpr z1),if_neg (by exact Ar.l01 (.no (.ile (.k 100) (.c (.v 0)))) [(.lt (.v 0) (.k 100))] (by kernel_rfl) z2)] at q2
    exact q2 rfl σ' (A.t.upH h' o')
  ·have z1:¬ l.last<S.day:=fun z=>by rw [if_pos z] at hd;exact absurd hd (by decide)
   rw [if_neg z1,List.length_map] at hd
   have z2:¬ (100:Int)<=S.lots.length:=fun z=>by rw [if_pos z] at hd;exact absurd hd (by decide)
   refine h (S.receive l) B kn σ' ⟨?_,A.ok.receive hl (by exact Ar.l02 (.lt (.v 0) (.k 1000)) [(.lt (.a (.v 0) (.v 1)) (.k 1000))] (by kernel_rfl) hn) (by exact Ar.l01 (.lt (.v 0) (.k 100)) [(.no (.ile (.k 100) (.c (.v 0))))] (by kernel_rfl) z2),A.hF,A.hB⟩ rfl (by show (S.gave++[0]).length+S.came.length<=_;rw [List.length_append,List.length_singleton];(exact Ar.l02 (.le (.a (.a (.v 0) (.k 1)) (.v 1)) (.a (.a (.v 0) (.v 1)) (.k 1))) [] (by kernel_rfl) ))
   have e:(⟨base,S.day,(S.receive l).lots.map zak,S.lines.map zac,((S.receive l).gave.length:Nat),S.came.length,kn⟩:BK)=⟨base,S.day,S.lots.map zak++[.tup [.int S.gave.length,.str l.w,.int l.last,.int l.n]],S.lines.map zac,S.gave.length+1,S.came.length,kn⟩:=by
    show (⟨base,S.day,(S.lots++[((S.gave.length:Int),l)]).map zak,S.lines.map zac,((S.gave++[0]).length:Nat),S.came.length,kn⟩:BK)=_
    rw [List.map_append,List.length_append,Int.natCast_add];rfl
   exact e ▸ A'
 ·rw [Bool.not_eq_true] at hg
  refine zzg (S':=S) (K1:=⟨base,S.day,S.lots.map zak,S.lines.map zac,S.gave.length+1,S.came.length,kn⟩) (K2:=⟨base,S.day,S.lots.map zak++[_],S.lines.map zac,S.gave.length+1,S.came.length,kn⟩) (t:=0) (q:=1) (bad:="bad lot") (due:="bad lot")
   hp A.t A.hB (Int.le_refl 0) (.inl rfl) rfl hvs rfl A.t.a hnl rfl (by decide) rfl (fun z=>by rw [hg] at z;cases z) (by rw [if_neg (by rw [hg];decide)]) (fun Q q1 q2=>?_) rfl rfl rfl rfl (fun z1=>hid) (fun hd=>absurd hd (by decide))
  refine zd5 hp hE (z0q hp hH ?_)
  exact zso hE hH ha hb he hg (.mk 0 (by decide) rfl rfl A.t.nx (q1 (by decide)))
theorem zwc (hp:L11 c.k) (A:Tw c.k c.F f H S B base kn σ) {o:Addr} (eo:B.o=o) {a b e g:V} (ha:OPart a) (hb:OPart b) (he:OPart e) (hg':OPart g) (hn:S.gave.length+S.came.length<1000) (h:Nx c f H o base (S.gave.length+S.came.length+1) P) :
  CallN c (d+7) "_law_put" [.ref H.a,.ref o,.int 1,.lst [a,b,e,g]] σ P X:=by
 subst eo
 obtain ⟨ad,hE⟩:=hp.errs
 have hvs:∀ v∈[a,b,e,g],OPart v:=all_cons ha (all_cons hb (all_cons he (all_cons hg' zbc)))
 have hnl:(S.lines.map zac).length<=1000:=by rw [List.length_map];have:=A.ok.nn;(exact Ar.l01 (.le (.v 0) (.k 1000)) [(.le (.v 0) (.k 100))] (by kernel_rfl) this)
 have hid:P (.bool true) σ:=h S B kn σ A rfl (Nat.le_succ _)
 have hH:=A.t.h
 by_cases hg:zdi 4 [a,b,e,g]=true
 ·obtain ⟨l,hl,rfl,rfl,rfl,rfl⟩:=zvf ha hg
  refine zzg (S':=S.order l) (K1:=⟨base,S.day,S.lots.map zak,S.lines.map zac,S.gave.length,S.came.length+1,kn⟩) (K2:=⟨base,S.day,S.lots.map zak,S.lines.map zac++[_],S.gave.length,S.came.length+1,kn⟩) (t:=l.day) (q:=2) (bad:="bad line") (due:=if l.day<S.day then ("late":Str) else if (100:Int)<=(S.lines.map zac).length then ("full":Str) else "given")
   hp A.t A.hB (by decide) (.inr rfl) rfl hvs rfl A.t.b hnl rfl (by decide) rfl (fun z1=>rfl) (by rw [if_pos hg]) (fun Q q1 q2=>?_) rfl rfl rfl rfl (fun z1=>hid) (fun hd σ' A'=>?_)
  ·refine zd5 hp hE (z0p hp hH ?_)
   rw [List.length_map] at q1 q2
   refine z2x hE hH A.hF A.ok hl (fun z=>?_) (fun z1 z2=>?_) (fun z1 z2 σ' h' o'=>?_)
   ·rw [if_pos z] at q1
    exact .mk 2 (by decide) rfl rfl A.t.nx (q1 (by decide))
   ·rw [if_neg (Int.not_lt.mpr z1),if_pos (by exact Ar.l01 (.ile (.k 100) (.c (.v 0))) [(.le (.k 100) (.v 0))] (by kernel_rfl) z2)] at q1
    exact .mk 3 (by decide) rfl rfl A.t.nx (q1 (by decide))
   ·rw [if_neg (Int.not_lt.mpr z1),if_neg (by exact Ar.l01 (.no (.ile (.k 100) (.c (.v 0)))) [(.lt (.v 0) (.k 100))] (by kernel_rfl) z2)] at q2
    exact q2 rfl σ' (A.t.upH h' o')
  ·have z1:¬ l.day<S.day:=fun z=>by rw [if_pos z] at hd;exact absurd hd (by decide)
   rw [if_neg z1,List.length_map] at hd
   have z2:¬ (100:Int)<=S.lines.length:=fun z=>by rw [if_pos z] at hd;exact absurd hd (by decide)
   refine h (S.order l) B kn σ' ⟨?_,A.ok.order hl (by exact Ar.l02 (.lt (.v 0) (.k 1000)) [(.lt (.a (.v 1) (.v 0)) (.k 1000))] (by kernel_rfl) hn) (by exact Ar.l01 (.lt (.v 0) (.k 100)) [(.no (.ile (.k 100) (.c (.v 0))))] (by kernel_rfl) z2),A.hF,A.hB⟩ rfl (by show S.gave.length+(S.came++[0]).length<=_;rw [List.length_append,List.length_singleton];(exact Ar.l02 (.le (.a (.v 0) (.a (.v 1) (.k 1))) (.a (.a (.v 0) (.v 1)) (.k 1))) [] (by kernel_rfl) ))
   have e:(⟨base,S.day,S.lots.map zak,(S.order l).lines.map zac,S.gave.length,((S.order l).came.length:Nat),kn⟩:BK)=⟨base,S.day,S.lots.map zak,S.lines.map zac++[.tup [.int S.came.length,.str l.w,.int l.day,.int l.left,.int l.n]],S.gave.length,S.came.length+1,kn⟩:=by
    show (⟨base,S.day,S.lots.map zak,(S.lines++[((S.came.length:Int),l)]).map zac,S.gave.length,((S.came++[0]).length:Nat),kn⟩:BK)=_
    rw [List.map_append,List.length_append,Int.natCast_add];rfl
   exact e ▸ A'
 ·rw [Bool.not_eq_true] at hg
  refine zzg (S':=S) (K1:=⟨base,S.day,S.lots.map zak,S.lines.map zac,S.gave.length,S.came.length+1,kn⟩) (K2:=⟨base,S.day,S.lots.map zak,S.lines.map zac++[_],S.gave.length,S.came.length+1,kn⟩) (t:=0) (q:=2) (bad:="bad line") (due:="bad line")
   hp A.t A.hB (by decide) (.inr rfl) rfl hvs rfl A.t.b hnl rfl (by decide) rfl (fun z=>by rw [hg] at z;cases z) (by rw [if_neg (by rw [hg];decide)]) (fun Q q1 q2=>?_) rfl rfl rfl rfl (fun z1=>hid) (fun hd=>absurd hd (by decide))
  refine zd5 hp hE (z0p hp hH ?_)
  exact zzh hE hH ha hb he hg' hg (.mk 1 (by decide) rfl rfl A.t.nx (q1 (by decide)))
theorem z8x {Q:List V->Prop} {vs:List V} (h:vs.length=3) (k:∀ a b e,Q [a,b,e]):Q vs:=by
 rcases vs with _ | ⟨a,_ | ⟨b,_ | ⟨e,_ | ⟨g,r⟩⟩⟩⟩
 ·cases h
 ·cases h
 ·cases h
 ·exact k a b e
 ·cases h
theorem z9d {Q:List V->Prop} {vs:List V} (h:vs.length=4) (k:∀ a b e g,Q [a,b,e,g]):Q vs:=by
 rcases vs with _ | ⟨a,r⟩
 ·cases h
 ·exact z8x (Q:=fun r=>Q (a::r)) (Nat.succ.inj h) (k a)
theorem z2w (hp:L11 c.k) (A:Tw c.k c.F f H S B base kn σ) {o:Addr} (eo:B.o=o) {vs:List V} (h1:∀ v∈vs,OPart v) (h2:vs.length=3) (hn:S.gave.length+S.came.length<1000) (h:Nx c f H o base (S.gave.length+S.came.length+1) P):CallN c (d+7) "_law_put" [.ref H.a,.ref o,.int 0,.lst vs] σ P X:=
 z8x (Q:=fun vs=>(∀ v∈vs,OPart v)->CallN c (d+7) "_law_put" [.ref H.a,.ref o,.int 0,.lst vs] σ P X) h2 (fun a b e h1=>z0n hp A eo (h1 _ (.head _)) (h1 _ (.tail _ (.head _))) (h1 _ (.tail _ (.tail _ (.head _)))) hn h) h1
theorem z2v (hp:L11 c.k) (A:Tw c.k c.F f H S B base kn σ) {o:Addr} (eo:B.o=o) {vs:List V} (h1:∀ v∈vs,OPart v) (h2:vs.length=4) (hn:S.gave.length+S.came.length<1000) (h:Nx c f H o base (S.gave.length+S.came.length+1) P):CallN c (d+7) "_law_put" [.ref H.a,.ref o,.int 1,.lst vs] σ P X:=
 z9d (Q:=fun vs=>(∀ v∈vs,OPart v)->CallN c (d+7) "_law_put" [.ref H.a,.ref o,.int 1,.lst vs] σ P X) h2 (fun a b e g h1=>zwc hp A eo (h1 _ (.head _)) (h1 _ (.tail _ (.head _))) (h1 _ (.tail _ (.tail _ (.head _)))) (h1 _ (.tail _ (.tail _ (.tail _ (.head _))))) hn h) h1
end
theorem zho {vs:List V} {Q:V->Prop} (hall:∀ v∈vs,Q v) {i:Int} (h0:0<=i) (h1:i<vs.length):∃ w,vs[i.toNat]?=some w/\Q w:=by
 have hlt:i.toNat<vs.length:=(Int.toNat_lt h0).mpr h1
 exact ⟨_,List.getElem?_eq_getElem hlt,hall _ (List.getElem_mem hlt)⟩
theorem zox (x y:Str):(x++y).length=x.length+y.length:=by rw [zao,zaj,List.length_append,← zao,← zao]
theorem zhm (lo hi:Option Int) (x:Str):(zar lo hi x).length<=x.length:=by
 rw [zao,zao];unfold zar;exact zay _ _ _
theorem zuk {x:Str}:PyData.strOk x=true ↔ ∀ k∈x.cps.toList,k<1114112:=by
 unfold PyData.strOk
 rw [← Array.all_toList,List.all_eq_true]
 simp
theorem z0b {x y:Str} (hx:PyData.strOk x=true) (hy:PyData.strOk y=true):PyData.strOk (x++y)=true:=by
 rw [zuk] at *
 intro k hk
 rw [zaj] at hk
 exact (List.mem_append.mp hk).elim (hx k) (hy k)
theorem zqc {x:Str} {lo hi:Option Int} (hx:PyData.strOk x=true):PyData.strOk (zar lo hi x)=true:=by
 rw [zuk] at *
 intro k hk
 unfold zar at hk
 exact hx k (zdb (by simpa using hk))
theorem z4f {x:Str} {i m:Nat} (hx:PyData.strOk x=true) (h:x.cps[i]?=some m):PyData.strOk (⟨#[m]⟩:Str)=true:=by
 rw [zuk] at *
 intro k hk
 rw [show k=m by simpa using hk]
 exact hx m (List.mem_of_getElem? (i:=i) (by rw [Array.getElem?_toList];exact h))
noncomputable abbrev oddS:Str:=Str.ofString " !\"#$&'()*+,-./0123456789:;<=>?@ABCDEFGHIJKLMNOPQRSTUVWXYZ[\\]^_{|}~\n\t"
theorem ztv:oddS.length=69:=by decide +kernel
theorem zxg:PyData.strOk oddS=true:=by decide +kernel
theorem zcz {a:Int} (b:Int) (h:0<b):0<=a % b/\a % b<b:=⟨Int.emod_nonneg a (Int.ne_of_gt h),Int.emod_lt_of_pos a h⟩
section
variable {f:Str->Value} {H:HA} {S:HS} {B:OB} {K:BK}
theorem z0m (hp:L11 c.k) {m:Int} (h:∀ i,P (.int i) σ):CallN c (d+1) "_law_wide" [.int m] σ P X:=by
 refine zae hp.f_law_wide ?_
 walk_at "X"
 all_goals exact h _
theorem zwd (hp:L11 c.k) (A:Tv c.k f H S B K σ) {cell kind:Int} (hx:Sz 1048600 cell) (h:∀ vs:List V,(∀ v∈vs,OPart v)->(vs.length=if kind=1 then 4 else 3)->P (.lst vs) σ):CallN c (d+2) "_law_parts" [.ref B.o,.int cell,.int kind] σ P X:=by
 have hh:=hp.toHelps
 have m3:=zcz (a:=zgt cell 1) 3 (by decide)
 have hw:=(zs7 K.base (zgt cell 1 % 3)).wok
 refine zae hp.f_law_parts ?_
 walk_at "X"
 refine A.item rfl ?_
 walk_at "X"
 refine zb1 hh hx (by exact Ar.l00 (.ile (.k 0) (.k 1)) [] (by kernel_rfl)) (by exact Ar.l00 (.ile (.k 1) (.k 1000)) [] (by kernel_rfl)) ?_
 walk_at "X"
 refine z5o hh m3.1 (by exact Ar.l10 (.ile (.v 0) (.k 1000)) [(.an (.ile (.k 0) (.v 0)) (.ilt (.v 0) (.k 3)))] (by kernel_rfl) m3) ?_
 generalize z3x K.base (zgt cell 1 % 3)=w at hw
 walk_at "X"
 refine A.item rfl ?_
 walk_at "X"
 refine zb1 hh hx (by exact Ar.l00 (.ile (.k 0) (.k 2)) [] (by kernel_rfl)) (by exact Ar.l00 (.ile (.k 2) (.k 1000)) [] (by kernel_rfl)) ?_
 walk_at "X"
 have L3:∀ day:Int,JB c (d+1) X (zl1 3 zbd) [(4,.int day),(3,.str w),(2,.int kind),(1,.int cell),(0,.ref B.o)] σ (zw5 P):=by
  intro day
  refine zc5 ?_
  walk_at "X"
  refine zb1 hh hx (by exact Ar.l00 (.ile (.k 0) (.k 4)) [] (by kernel_rfl)) (by exact Ar.l00 (.ile (.k 4) (.k 1000)) [] (by kernel_rfl)) ?_
  walk_at "X"
  refine z0m hp fun i=>?_
  walk_at "X"
  intro t hto htF
  walk_at "X"
  refine ⟨kind == 1,fun Q hQ=>?_,?_⟩
  ·refine zf4 ?_
   walk_at "X"
   exact hQ
  have L6:∀ vs:List V,(∀ v∈vs,OPart v)->(vs.length=if kind=1 then 4 else 3)->JB c (d+1) X (zl1 6 zbd) [(5,.ref t)] ((t,.list vs)::σ) (zw5 P):=by
   intro vs h1 h2
   refine zc5 ?_
   show Ret P (.ret (.ref t)) [] _
   exact ⟨_,_,.freeze zai (.refl _),by rw [List.filter_cons_of_neg (by simp)];exact (by
    have:σ.filter (fun p=>p.1 != t)=σ:=List.filter_eq_self.mpr fun p hp=>by
     have:p.1≠t:=fun q=>hto (mem_owned.mpr ⟨p.1,p.2,hp,q ▸ O.self _ _⟩)
     simpa using this
    rw [this];exact h vs h1 h2)⟩
  have L5:∀ vs:List V,(∀ v∈vs,OPart v)->(vs.length=if kind=1 then 4 else 3)->JB c (d+1) X (zl1 5 zbd) [(5,.ref t),(3,.str w),(1,.int cell)] ((t,.list vs)::σ) (zw5 P):=by
   intro vs h1 h2
   have hz:3<=vs.length/\vs.length<=4:=by rw [h2];split <;> decide
   refine zc5 ?_
   walk_at "X"
   refine ⟨zgt cell 6 % 9 == 0,fun Q hQ=>?_,?_⟩
   ·refine zf4 ?_
    walk_at "X"
    refine zb1 hh hx (by exact Ar.l00 (.ile (.k 0) (.k 6)) [] (by kernel_rfl)) (by exact Ar.l00 (.ile (.k 6) (.k 1000)) [] (by kernel_rfl)) ?_
    walk_at "X"
    exact hQ
   walk_at "X"
   ·have hs2:sizeLine=16777216:=by rw [sizeLine_eq]
    have hl:=ztv
    have hS:=zxg
    have hwl:=hw.hi
    walk_at "X"
    refine zb1 hh hx (by exact Ar.l00 (.ile (.k 0) (.k 8)) [] (by kernel_rfl)) (by exact Ar.l00 (.ile (.k 8) (.k 1000)) [] (by kernel_rfl)) ?_
    walk_at "X"
    rw [hl]
    have n0:=zcz (a:=zgt cell 8 / 9) 69 (by decide)
    obtain ⟨m,hm⟩:∃ m,oddS.cps[(zgt cell 8 / 9 % 69).toNat]?=some m:=⟨_,getElem?_pos _ _ (by have:oddS.cps.size=69:=hl;rw [this];exact (Int.toNat_lt n0.1).mpr n0.2)⟩
    refine zlm n0.1 hm (Int.lt_trans n0.2 (by decide)) ?_
    have s1:=zhm none (some 5) w
    have s2:=zhm (some 5) (some 11) w
    have s3:(⟨#[m]⟩:Str).length=1:=rfl
    walk_at "X"
    refine zdx (by rw [hs2,s3];(exact Ar.l02 (.le (.a (.v 0) (.k 1)) (.k 16777216)) [(.le (.v 1) (.k 12)),(.le (.v 0) (.v 1))] (by kernel_rfl) hwl s1)) ?_
    walk_at "X"
    refine zdx (by rw [hs2,zox,s3];(exact Ar.l03 (.le (.a (.a (.v 0) (.k 1)) (.v 1)) (.k 16777216)) [(.le (.v 2) (.k 12)),(.le (.v 0) (.v 2)),(.le (.v 1) (.v 2))] (by kernel_rfl) hwl s1 s2)) ?_
    have hodd:OPart (.str (zar none (some 5) w++⟨#[m]⟩++zar (some 5) (some 11) w)):=.str (by rw [zox,zox,s3];(exact Ar.l03 (.le (.a (.a (.v 0) (.k 1)) (.v 1)) (.k 1000)) [(.le (.v 2) (.k 12)),(.le (.v 0) (.v 2)),(.le (.v 1) (.v 2))] (by kernel_rfl) hwl s1 s2)) (z0b (z0b (zqc hw.ok) (z4f hS hm)) (zqc hw.ok))
    generalize zar none (some 5) w++(⟨#[m]⟩:Str)++zar (some 5) (some 11) w=odd at hodd ⊢
    walk_at "X"
    refine zb1 hh hx (by exact Ar.l00 (.ile (.k 0) (.k 8)) [] (by kernel_rfl)) (by exact Ar.l00 (.ile (.k 8) (.k 1000)) [] (by kernel_rfl)) ?_
    walk_at "X"
    have n1:=zcz (a:=zgt cell 8) 8 (by decide)
    obtain ⟨u,hu,hq⟩:=zho (Q:=OPart) (vs:=[.int (0 - 1),.int (1000000000000+1),.bool true,.none,.str (Str.ofString ""),.str odd,.str odd,.lst [.int 1]]) (all_cons .int (all_cons .int (all_cons .bool (all_cons .none (all_cons (.str (by decide +kernel) (by decide +kernel)) (all_cons hodd (all_cons hodd (all_cons .lst zbc)))))))) n1.1 n1.2
    refine zag (.lst _) n1.1 hu ?_
    walk_at "X"
    refine zb1 hh hx (by exact Ar.l00 (.ile (.k 0) (.k 7)) [] (by kernel_rfl)) (by exact Ar.l00 (.ile (.k 7) (.k 1000)) [] (by kernel_rfl)) ?_
    walk_at "X"
    have n2:=zcz (a:=zgt cell 7) 5 (by decide)
    obtain ⟨v,hv,i,rfl⟩:=zho (Q:=fun v=>∃ i:Int,v=.int i) (vs:=[.int 0,.int 0,.int 1,.int 2,.int 3]) (all_cons ⟨_,rfl⟩ (all_cons ⟨_,rfl⟩ (all_cons ⟨_,rfl⟩ (all_cons ⟨_,rfl⟩ (all_cons ⟨_,rfl⟩ zbc))))) n2.1 n2.2
    refine zag (.lst _) n2.1 hv ?_
    walk_at "X"
    refine zal (.ref zai) ?_
    walk_at "X"
    have n3:=zcz (a:=i) (vs.length:Int) (by exact Ar.l01 (.ilt (.k 0) (.c (.v 0))) [(.an (.le (.k 3) (.v 0)) (.le (.v 0) (.k 4)))] (by kernel_rfl) hz)
    refine zdt zai htF n3.1 ((Int.toNat_lt n3.1).mpr n3.2) ?_
    rw [zb4]
    walk_at "X"
    refine za6 ?_ (L6 (vs.set (i % (vs.length:Int)).toNat u) (fun v hv=>?_) (by rw [List.length_set];exact h2))
    ·walk_at "sub"
    ·rcases List.mem_or_eq_of_mem_set hv with z | z
     ·exact h1 v z
     ·rw [z];exact hq
   ·refine za6 ?_ (L6 vs h1 h2)
    walk_at "sub"
  have hvs:∀ v∈[V.str w,.int day,.int (1+i % 1000000000000)],OPart v:=all_cons (.str (by have:=hw.hi;(exact Ar.l01 (.le (.v 0) (.k 1000)) [(.le (.v 0) (.k 12))] (by kernel_rfl) this)) hw.ok) (all_cons .int (all_cons .int zbc))
  walk_at "X"
  ·rename_i z
   have z:kind=1:=by simpa using z
   refine ⟨_,_,zpc zai,?_⟩
   walk_at "X"
   refine zb1 hh hx (by exact Ar.l00 (.ile (.k 0) (.k 5)) [] (by kernel_rfl)) (by exact Ar.l00 (.ile (.k 5) (.k 1000)) [] (by kernel_rfl)) ?_
   walk_at "X"
   refine z0m hp fun j=>?_
   walk_at "X"
   refine zpt zai htF (by exact Ar.l00 (.ile (.k 0) (.k 2)) [] (by kernel_rfl)) (by simp) (by simp) ?_
   rw [zb4]
   walk_at "X"
   refine za6 ?_ (L5 [.str w,.int day,.int j,.int (1+i % 1000000000000)] (all_cons (hvs _ (.head _)) (all_cons .int (all_cons .int (all_cons .int zbc)))) (by rw [if_pos z];rfl))
   walk_at "sub"
  ·rename_i z
   have z:¬ kind=1:=by simpa using z
   refine za6 ?_ (L5 _ hvs (by rw [if_neg z];rfl))
   walk_at "sub"
 refine ⟨zgt cell 3 % 8 == 0,fun Q hQ=>?_,?_⟩
 ·refine zf4 ?_
  walk_at "X"
  refine zb1 hh hx (by exact Ar.l00 (.ile (.k 0) (.k 3)) [] (by kernel_rfl)) (by exact Ar.l00 (.ile (.k 3) (.k 1000)) [] (by kernel_rfl)) ?_
  walk_at "X"
  exact hQ
 walk_at "X"
 ·refine zb1 hh hx (by exact Ar.l00 (.ile (.k 0) (.k 3)) [] (by kernel_rfl)) (by exact Ar.l00 (.ile (.k 3) (.k 1000)) [] (by kernel_rfl)) ?_
  walk_at "X"
  refine za6 ?_ (L3 (zgt cell 3 / 8 % (1000000000000+1)))
  walk_at "sub"
 ·refine za6 ?_ (L3 (max 0 (K.day+zgt cell 2 % 12 - 2)))
  walk_at "sub"
end
theorem zu9 (ns:List Int):zms (ns.map V.int)=true:=by
 induction ns with
 | nil=>rfl
 | cons n ns ih=>simp only [List.map_cons,zms,isD,ih,Bool.and_self]
theorem zyx (x:Int) (ns:List Int):((zin (ns.map V.int)).any fun y=>PyData.eqv y (.int x))=ns.any fun y=>y == x:=by
 induction ns with
 | nil=>rfl
 | cons n ns ih=>simp only [List.map_cons,zin,toD,List.any_cons,ih];rfl
theorem zpp {x:Int} {ns:List Int} (h:P (.bool (ns.any fun y=>y == x)) σ):Op2 c d (compareOp .In) (.int x) (.lst (ns.map .int)) σ P:=by
 have hb:Dat σ (.lst (ns.map .int)) (.list (zin (ns.map V.int))):=.val (v:=.lst (ns.map .int)) (by rw [isD];exact zu9 ns)
 refine zz0 (x:=.int x) (.val (v:=.int x) rfl) hb (by simp [PyData.depth]) ?_
 rw [zyx];exact h
theorem zik {x:Str} (hx:PyData.strOk x=true) (h:P (.bool true) σ):Op2 c d (compareOp .Eq) (.tup [.str x,.none]) (.tup [.str x,.none]) σ P:=by
 have hd:isD (.tup [.str x,.none])=true:=by simp [isD,zms,hx]
 refine zrg (.val hd) (.val hd) (by simp [toD,zin,PyData.depth,PyData.depthAll]) (by simp [toD,zin,PyData.depth,PyData.depthAll]) ?_
 rw [zqs hd];exact h
theorem zey {ns:List Nat} {cond elt:T} {ρ:Rho} {Kf:List V->Led->Prop} {α:Type} {e:α->V} (f:α->V) (p:α->Bool) {rows:List α} {ws:List V} (eq:(rows.filter p).map f=ws) (hs:∀ a∈rows,∃ ρ₁,bnd ns (e a) ρ=some ρ₁/\JT c d NoX cond ρ₁ σ (fun b σ'=>b=p a/\σ'=σ)/\(p a=true->JE c d NoX elt ρ₁ σ (fun w σ'=>w=f a/\σ'=σ))) (h:Kf ws σ):JComp c d ns true cond elt ρ Kf (rows.map e) [] σ:=
 zg0 e f p rows [] hs (by rw [← eq] at h;exact h)
section
variable {f:Str->Value} {H:HA} {S S':HS} {B:OB} {base:Int} {kn:Bool} {K:BK}
theorem Tv.setLines {b:Addr} {N':List V} {Q:Led->Prop} (A:Tv c.k f H S B K σ) (hB:∀ x∈B.parts,x∉c.F) (hb:b∉zab σ) (h:∀ σ',Tv c.k f H S { B with b:=b } { K with N:=N' } σ'->Q σ'):zei c d (.ref B.o) (.str "lines") (.ref b) ((b,.list N')::σ) Q:=
 zdv DK.str (zam (za2 A.o hb) A.o) (hB _ (.head _)) (by simp [OB.kv]) (h _ (A.new hb 2 rfl rfl rfl))
theorem Tv.setLots {a:Addr} {L':List V} {Q:Led->Prop} (A:Tv c.k f H S B K σ) (hB:∀ x∈B.parts,x∉c.F) (ha:a∉zab σ) (h:∀ σ',Tv c.k f H S { B with a:=a } { K with L:=L' } σ'->Q σ'):zei c d (.ref B.o) (.str "lots") (.ref a) ((a,.list L')::σ) Q:=
 zdv DK.str (zam (za2 A.o ha) A.o) (hB _ (.head _)) (by simp [OB.kv]) (h _ (A.new ha 1 rfl rfl rfl))
theorem Tv.setDay {day:Int} {Q:Led->Prop} (A:Tv c.k f H S B K σ) (hB:∀ x∈B.parts,x∉c.F) (h:∀ σ',Tv c.k f H S B { K with day:=day } σ'->Q σ'):zei c d (.ref B.o) (.str "day") (.int day) σ Q:=
 zdv DK.str A.o (hB _ (.head _)) (by simp [OB.kv]) (h _ (A.put 0 rfl rfl rfl))
theorem Tv.setKnown {kn:Bool} {Q:Led->Prop} (A:Tv c.k f H S B K σ) (hB:∀ x∈B.parts,x∉c.F) (h:∀ σ',Tv c.k f H S B { K with kn:=kn } σ'->Q σ'):zei c d (.ref B.o) (.str "known") (.bool kn) σ Q:=
 zdv DK.str A.o (hB _ (.head _)) (by simp [OB.kv]) (h _ (A.put 0 rfl rfl rfl))
theorem z41 {F:List Addr} {b:Addr} (hB:∀ x∈B.parts,x∉F) (hb:b∉F):∀ x∈({ B with b:=b }:OB).parts,x∉F:=all_cons (hB _ (.head _)) (all_cons (hB _ (.tail _ (.head _))) (all_cons hb (all_cons (hB _ (.tail _ (.tail _ (.tail _ (.head _))))) zbc)))
theorem z42 {F:List Addr} {b:Addr} (hB:∀ x∈B.parts,x∉F) (hb:b∉F):∀ x∈({ B with a:=b }:OB).parts,x∉F:=all_cons (hB _ (.head _)) (all_cons hb (all_cons (hB _ (.tail _ (.tail _ (.head _)))) (all_cons (hB _ (.tail _ (.tail _ (.tail _ (.head _))))) zbc)))
theorem zee (hp:L11 c.k) (A:Tw c.k c.F f H S B base kn σ) {v:V} {th:Bool} {i:Int} (hv:th=true->v=.int i) (ok:S'.Ok)
  (e1:S'.lines=S.lines.filter fun p=>!th || p.1 != i) (e2:S'.day=S.day) (e3:S'.lots=S.lots) (e4:S'.gave=S.gave) (e5:S'.came=S.came) (h:Nx c f H B.o base (S.gave.length+S.came.length) P)
  (hth:∀ Q:V->Led->Prop,Q (.bool th) σ->JE c (d+4) X zbm [(0,.ref H.a),(1,.ref B.o),(2,v)] σ Q)
  (hs:∀ Q:V->Led->Prop,(∀ σ',Hs c.k f H S' σ'->Oth H σ σ'->Q (.tup [.str (if th=true then "given" else "no number"),.none]) σ')->CallN c (d+4) "_law_said" [.ref H.a,.int 2,v] σ Q X):CallN c (d+5) "_law_cancel" [.ref H.a,.ref B.o,v] σ P X:=by
 refine zae hp.f_law_cancel ?_
 walk_at "X"
 refine ⟨.bool th,hth,?_⟩
 walk_at "X"
 refine hs _ fun σ₁ h₁ o₁=>?_
 have A₁:=A.t.upH h₁ o₁
 walk_at "X"
 refine A₁.item rfl ?_
 walk_at "X"
 refine ⟨_,[B.b],by simpa using zbn A₁.b,zdy A₁.b (by simp [Cx.pro]),fun D=>?_⟩
 refine zey (e:=zac) zac (fun p=>!th || p.1 != i) rfl (fun p hp=>⟨_,rfl,?_,fun z1=>?_⟩) ?_
 ·refine zf4 ?_
  cases th with
  | false=>
   walk_at "X"
   exact ⟨rfl,rfl⟩
  | true=>
   rw [hv rfl]
   walk_at "X"
   ·rename_i q
    exact ⟨by simpa using q,rfl⟩
   ·rename_i q
    have z:p.1=i:=by simpa using q
    exact ⟨by rw [z];show false=(false || (i != i));rw [bne_self_eq_false];rfl,rfl⟩
 ·refine znb ?_
  walk_at "X"
  exact ⟨rfl,rfl⟩
 refine zjv fun b hb hbF=>?_
 walk_at "X"
 refine A₁.setLines A.hB hb fun σ₂ A₂=>?_
 have hid:P (.bool true) σ₂:=by
  refine h S' { B with b:=b } kn σ₂ ⟨?_,ok,A.hF,z41 A.hB hbF⟩ rfl (by rw [e4,e5];exact Nat.le_refl _)
  rw [e1,e2,e3,e4,e5];exact A₂
 cases th with
 | false=>
  walk_at "X"
  refine zc3 ?_
  walk_at "X"
  refine zag (.lst _) (w:=.str "no number") (by decide) rfl ?_
  walk_at "X"
  refine zik (x:="no number") (by decide +kernel) ?_
  walk_at "X"
  exact hid
 | true=>
  walk_at "X"
  refine zc3 ?_
  walk_at "X"
  refine zag (.lst _) (w:=.str "given") (by decide) rfl ?_
  walk_at "X"
  refine zik (x:="given") (by decide +kernel) ?_
  walk_at "X"
  exact hid
theorem zj9 (hp:L11 c.k) (A:Tw c.k c.F f H S B base kn σ) {o:Addr} (eo:B.o=o) {v:V} (hv:NotInt σ v\/∃ i,v=.int i) (h:Nx c f H o base (S.gave.length+S.came.length) P):CallN c (d+5) "_law_cancel" [.ref H.a,.ref o,v] σ P X:=by
 subst eo
 obtain ⟨ad,hE⟩:=hp.errs
 have hH:=A.t.h
 have hw:FnT c.k "_law_whole" 1 zbj:=hp.f_law_whole
 rcases hv with hv | ⟨i,rfl⟩
 ·refine zee (S':=S) (th:=false) (i:=0) hp A (fun q=>nomatch q) A.ok (List.filter_eq_self.mpr fun z1 z2=>rfl).symm rfl rfl rfl rfl h (fun Q hQ=>?_) (fun Q hQ=>?_)
  ·refine znb ?_
   walk_at "X"
   refine zc2 hw hv ?_
   walk_at "X"
   exact hQ
  ·refine zd5 hp hE (zwl hp hH ?_)
   exact zwh hE hH hv (.mk 4 (by decide) rfl rfl A.t.nx (hQ σ hH .refl))
 ·have hJ:∀ Q:V->Led->Prop,Q (.bool ((S.lines.map (·.1)).any fun y=>y == i)) σ->JE c (d+4) X zbm [(0,.ref H.a),(1,.ref B.o),(2,.int i)] σ Q:=fun Q hQ=>by
   refine znb ?_
   walk_at "X"
   refine zdw hw ?_
   walk_at "X"
   refine A.t.item rfl ?_
   walk_at "X"
   refine ⟨_,[B.b],by simpa using zbn A.t.b,zdy A.t.b (by simp [Cx.pro]),fun D=>?_⟩
   refine zaz zac (fun p=>.int p.1) S.lines [] (fun p hp=>⟨_,rfl,?_⟩) ?_
   ·walk_at "X"
    exact ⟨rfl,rfl⟩
   refine zcj ?_
   rw [List.nil_append,show (S.lines.map fun p=>V.int p.1)=(S.lines.map (·.1)).map V.int by rw [List.map_map];rfl]
   walk_at "X"
   refine zpp ?_
   walk_at "X"
   exact hQ
  cases hth:(S.lines.map (·.1)).any fun y=>y == i with
  | true=>
   rw [hth] at hJ
   obtain ⟨y,hy,e⟩:=List.any_eq_true.mp hth
   obtain ⟨p,hp',rfl⟩:=List.mem_map.mp hy
   have e:p.1=i:=eq_of_beq e
   subst e
   refine zee (S':=S.cancel p.1) (th:=true) (i:=p.1) hp A (fun z1=>rfl) (A.ok.cancel _) ?_ rfl rfl rfl rfl h hJ (fun Q hQ=>?_)
   ·show S.lines.filter _=_
    refine List.filter_congr fun q z1=>?_
    rw [Bool.not_true,Bool.false_or]
    by_cases z:q.1=p.1
    ·rw [decide_eq_false fun k=>k z,z];simp
    ·rw [decide_eq_true z];simp [z]
   ·refine zd5 hp hE (zwl hp hH ?_)
    exact zzk hH A.hF A.ok hp' hQ
  | false=>
   rw [hth] at hJ
   refine zee (S':=S) (th:=false) (i:=0) hp A (fun q=>nomatch q) A.ok (List.filter_eq_self.mpr fun z1 z2=>rfl).symm rfl rfl rfl rfl h hJ (fun Q hQ=>?_)
   refine zd5 hp hE (zwl hp hH ?_)
   exact zwi hE hH (fun p hp e=>List.any_eq_false.mp hth p.1 (List.mem_map_of_mem hp) (beq_iff_eq.mpr e)) (.mk 4 (by decide) rfl rfl A.t.nx (hQ σ hH .refl))
end
theorem zjs (a b:Int):(!decide (a<b))=decide (b<=a):=by
 by_cases h:a<b
 ·rw [decide_eq_true h,decide_eq_false (Int.not_le.mpr h)];rfl
 ·rw [decide_eq_false h,decide_eq_true (Int.not_lt.mp h)];rfl
theorem zsh {n:Nat} {vs:List V} (h:∀ v∈vs,(toD v).depth<=n):PyData.depthAll (zin vs)<=n:=by
 induction vs with
 | nil=>simp [zin,PyData.depthAll]
 | cons v vs ih=>
  have h1:=h v (.head _)
  have h2:=ih fun w hw=>h w (.tail _ hw)
  simp only [zin,PyData.depthAll];lia
theorem zqw {α:Type} {g:α->V} {l:List α} (h:∀ x∈l,isD (g x)=true):isD (.lst (l.map g))=true:=by
 simp only [isD];rw [zx7];intro v hv;obtain ⟨x,hx,rfl⟩:=List.mem_map.mp hv;exact h x hx
theorem zqv {α:Type} {g:α->V} {l:List α} (h:∀ x,(toD (g x)).depth<=1):(toD (.lst (l.map g))).depth<=20:=by
 have:=zsh (n:=1) (vs:=l.map g) (by intro v hv;obtain ⟨x,hx,rfl⟩:=List.mem_map.mp hv;exact h x)
 simp only [toD,PyData.depth];(exact Ar.l01 (.le (.a (.v 0) (.k 1)) (.k 20)) [(.le (.v 0) (.k 1))] (by kernel_rfl) this)
theorem zka {fnd:List (Int × zek)} (h:∀ b,(fnd=[]->b=true)->P (.bool b) σ):Op2 c d (compareOp .Eq) (.lst (fnd.map zrv)) (.lst []) σ P:=by
 refine zrg (.val (zqw fun z1 z2=>rfl)) (.val (v:=.lst []) rfl) (zqv fun x=>by simp [zrv,zs2,toD,zin,PyData.depth,PyData.depthAll]) (by simp [toD,zin,PyData.depth,PyData.depthAll]) (h _ fun e=>by rw [e];rfl)
section
variable {f:Str->Value} {H:HA} {S S':HS} {B:OB} {base:Int} {kn:Bool} {K:BK}
theorem z4y (hp:L11 c.k) (A:Tw c.k c.F f H S B base kn σ) {v:V} (h:P (.bool true) σ)
  (hth:∀ Q:V->Led->Prop,Q (.bool false) σ->JE c (d+10) X zd0 [(0,.ref H.a),(1,.ref B.o),(2,v)] σ Q)
  (hs:∀ Q:V->Led->Prop,Q (.tup [.str "bad day",.none]) σ->CallN c (d+10) "_law_said" [.ref H.a,.int 3,v] σ Q X):CallN c (d+11) "_law_go" [.ref H.a,.ref B.o,v] σ P X:=by
 refine zae hp.f_law_go ?_
 walk_at "X"
 refine ⟨.bool false,hth,?_⟩
 walk_at "X"
 refine hs _ ?_
 walk_at "X"
 exact h
theorem z4x (hp:L11 c.k) (A:Tw c.k c.F f H S B base kn σ) {i:Int} (h0:S.day<=i) (h1:i<=1000000000000) (h:Nx c f H B.o base (S.gave.length+S.came.length) P):CallN c (d+11) "_law_go" [.ref H.a,.ref B.o,.int i] σ P X:=by
 obtain ⟨ad,hE⟩:=hp.errs
 have hH:=A.t.h
 have hw:FnT c.k "_law_whole" 1 zbj:=hp.f_law_whole
 refine zae hp.f_law_go ?_
 walk_at "X"
 refine ⟨.bool true,fun Q hQ=>?_,?_⟩
 ·refine znb ?_
  walk_at "X"
  refine zdw hw ?_
  walk_at "X"
  refine A.t.item rfl ?_
  walk_at "X"
  ·rename_i q
   show Q (.bool (decide (i<=1000000000000))) σ
   rw [decide_eq_true h1]
   exact hQ
  ·rename_i q;exact absurd h0 q
 walk_at "X"
 refine zd5 hp hE (zwk hp hH ?_)
 refine z21 hH A.hF A.ok h0 h1 fun S' fnd σ₁ G h₁ o₁=>?_
 have A₁:=A.t.upH h₁ o₁
 walk_at "X"
 have hc:∀ x∈[B.b],x∈zab σ₁:=by simpa using zbn A₁.b
 refine ⟨.bool (kn && decide ((((S.lines.filter fun p=>decide (p.2.day<i)).length:Nat):Int)=0)),fun Q hQ=>?_,?_⟩
 ·refine znb ?_
  walk_at "X"
  refine A₁.item rfl ?_
  walk_at "X"
  ·rename_i q
   rw [q,Bool.true_and] at hQ
   refine A₁.item rfl ?_
   walk_at "X"
   refine ⟨_,[B.b],hc,zdy A₁.b (by simp [Cx.pro]),fun D=>?_⟩
   refine zg0 zac (fun z1=>.int 1) (fun p=>decide (p.2.day<i)) S.lines [] (fun p hp=>⟨_,rfl,?_,fun z1=>?_⟩) ?_
   ·walk_at "X"
    exact ⟨rfl,rfl⟩
   ·walk_at "X"
    exact ⟨rfl,rfl⟩
   refine zcj ?_
   rw [List.nil_append]
   refine Leaf.mk ⟨_,List.length_map _,?_⟩
   walk_at "X"
   exact hQ
  ·rename_i q
   rw [q,Bool.false_and] at hQ
   exact hQ
 have hkn:(kn && decide ((((S.lines.filter fun p=>decide (p.2.day<i)).length:Nat):Int)=0))=true->S'.lots=S.lots.filter (fun p=>decide (i<=p.2.last))/\fnd=[]:=fun q=>by
  rw [Bool.and_eq_true,decide_eq_true_eq] at q
  have q2:(S.lines.filter fun p=>decide (p.2.day<i)).length=0:=by have:=q.2;(exact Ar.l01 (.eq (.v 0) (.k 0)) [(.ieq (.c (.v 0)) (.k 0))] (by kernel_rfl) this)
  refine G.none fun p hp=>Int.not_lt.mp fun z=>?_
  have:=List.filter_eq_nil_iff.mp (List.eq_nil_of_length_eq_zero q2) p hp
  exact this (decide_eq_true z)
 generalize (kn && decide ((((S.lines.filter fun p=>decide (p.2.day<i)).length:Nat):Int)=0))=kn' at hkn ⊢
 walk_at "X"
 refine A₁.setKnown A.hB fun σ₂ A₂=>?_
 walk_at "X"
 refine A₂.setDay A.hB fun σ₃ A₃=>?_
 walk_at "X"
 refine A₃.item rfl ?_
 walk_at "X"
 refine ⟨_,[B.b],by simpa using zbn A₃.b,zdy A₃.b (by simp [Cx.pro]),fun D=>?_⟩
 refine zey (e:=zac) zac (fun p=>decide (i<=p.2.day)) rfl (fun p hp=>⟨_,rfl,?_,fun z1=>?_⟩) ?_
 ·walk_at "X"
  exact ⟨zjs _ _,rfl⟩
 ·walk_at "X"
  exact ⟨rfl,rfl⟩
 refine zjv fun b hb hbF=>?_
 walk_at "X"
 refine A₃.setLines A.hB hb fun σ₄ A₄=>?_
 have hB₄:=z41 A.hB hbF
 walk_at "X"
 refine A₄.item rfl ?_
 walk_at "X"
 refine ⟨_,[B.a],by simpa using zbn A₄.a,zdy A₄.a (by simp [Cx.pro]),fun D=>?_⟩
 refine zey (e:=zak) zak (fun p=>decide (i<=p.2.last)) rfl (fun p hp=>⟨_,rfl,?_,fun z1=>?_⟩) ?_
 ·walk_at "X"
  exact ⟨zjs _ _,rfl⟩
 ·walk_at "X"
  exact ⟨rfl,rfl⟩
 refine zjv fun a ha haF=>?_
 walk_at "X"
 refine A₄.setLots hB₄ ha fun σ₅ A₅=>?_
 have hB₅:=z42 hB₄ haF
 walk_at "X"
 refine A₅.item rfl ?_
 have hnb:S'.gave.length+S'.came.length<=S.gave.length+S.came.length:=by rw [G.gave,G.came];exact Nat.le_refl _
 cases kn' with
 | true=>
  obtain ⟨k1,rfl⟩:=hkn rfl
  walk_at "X"
  refine zka (fnd:=[]) fun b' hb'=>?_
  rw [hb' rfl]
  walk_at "X"
  refine h S' _ true σ₅ ⟨?_,G.ok,A.hF,hB₅⟩ rfl hnb
  rw [G.day,G.lines,G.gave,G.came,k1];exact A₅
 | false=>
  walk_at "X"
  refine ⟨_,mth A₅.h rfl rfl rfl,?_⟩
  walk_at "X"
  refine zo5 A₅.h G.ok fun t ht htF=>?_
  walk_at "X"
  refine A₅.setLots hB₅ ht fun σ₆ A₆=>?_
  have hB₆:=z42 hB₅ htF
  have hid:P (.bool true) σ₆:=by
   refine h S' _ false σ₆ ⟨?_,G.ok,A.hF,hB₆⟩ rfl hnb
   rw [G.day,G.lines,G.gave,G.came];exact A₆
  walk_at "X"
  refine zka fun b' z1=>?_
  walk_at "X"
  ·exact hid
  ·refine A₆.item rfl ?_
   walk_at "X"
   exact hid
theorem zwf (hp:L11 c.k) (A:Tw c.k c.F f H S B base kn σ) {o:Addr} (eo:B.o=o) {v:V} (hv:NotInt σ v\/∃ i,v=.int i) (h:Nx c f H o base (S.gave.length+S.came.length) P):CallN c (d+11) "_law_go" [.ref H.a,.ref o,v] σ P X:=by
 subst eo
 obtain ⟨ad,hE⟩:=hp.errs
 have hH:=A.t.h
 have hw:FnT c.k "_law_whole" 1 zbj:=hp.f_law_whole
 have hid:P (.bool true) σ:=h S B kn σ A rfl (Nat.le_refl _)
 rcases hv with hv | ⟨i,rfl⟩
 ·refine z4y hp A hid (fun Q hQ=>?_) (fun Q hQ=>?_)
  ·refine znb ?_
   walk_at "X"
   refine zc2 hw hv ?_
   walk_at "X"
   exact hQ
  ·refine zd5 hp hE (zwk hp hH ?_)
   exact zzi hE hH hv (.mk 5 (by decide) rfl rfl A.t.nx hQ)
 ·by_cases hi:S.day<=i/\i<=1000000000000
  ·exact z4x hp A hi.1 hi.2 h
  ·refine z4y hp A hid (fun Q hQ=>?_) (fun Q hQ=>?_)
   ·refine znb ?_
    walk_at "X"
    refine zdw hw ?_
    walk_at "X"
    refine A.t.item rfl ?_
    walk_at "X"
    ·rename_i q
     show Q (.bool (decide (i<=1000000000000))) σ
     rw [decide_eq_false fun z=>hi ⟨q,z⟩]
     exact hQ
    ·exact hQ
   ·refine zd5 hp hE (zwk hp hH ?_)
    exact zzj hE hH hi (.mk 5 (by decide) rfl rfl A.t.nx hQ)
end
section
variable {f:Str->Value} {H:HA} {S S':HS} {B:OB} {base:Int} {kn:Bool} {K:BK}
theorem Tv.other {k:Base} {b:Addr} {o o':O} (A:Tv k f H S B K σ) (hl:σ.lookup b=some o') (h1:b∉H.parts) (h2:b∉B.parts) (ho:zjt o=true):Tv k f H S B K (upd b o σ):=
 ⟨A.h.other h1 hl,A.nd,A.all.of fun x hx z e=>by rw [zbb hl,if_neg (show x≠b from fun q=>h2 (q ▸ hx))];exact e,A.sp,A.nx.upd hl ho⟩
theorem zij {α:Type} {g:α->V} {l:List α} {a b:Addr} (ha:σ.lookup a=some (.list (l.map g))) (hb:σ.lookup b=some (.list (l.map g))) (hi:∀ x∈l,isD (g x)=true) (hd:∀ x,(toD (g x)).depth<=1) (h:P (.bool false) σ):Op2 c d (compareOp .NotEq) (.ref a) (.ref b) σ P:=by
 have h1:=zqw hi
 have h2:zms (l.map g)=true:=by rw [isD] at h1;exact h1
 have h3:(toD (.lst (l.map g))).depth<=20:=zqv hd
 have e:toD (.lst (l.map g))=.list (zin (l.map g)):=by rw [toD]
 refine zzz (.ref ha h2) (.ref hb h2) (e ▸ h3) (e ▸ h3) ?_
 rw [← e,zqs h1];exact h
noncomputable def z9c (p:Int × Lot):List V:=[.int p.1,.str p.2.w,.int p.2.last,.int p.2.n]
noncomputable def z7x (p:Int × Line):List V:=[.int p.1,.str p.2.w,.int p.2.day,.int p.2.left,.int p.2.n]
theorem zwj (hp:L11 c.k) (A:Tw c.k c.F f H S B base kn σ) {o:Addr} (eo:B.o=o) {n:Nat} (hn:S.gave.length+S.came.length<=n) (h:Nx c f H o base n P):CallN c (d+2) "_law_alike" [.ref H.a,.ref o] σ P X:=by
 subst eo
 have ok:=A.ok
 have hw:FnT c.k "_law_whole" 1 zbj:=hp.f_law_whole
 have hnl:=ok.nl
 have hnn:=ok.nn
 refine zae hp.f_law_alike ?_
 walk_at "H"
 refine ⟨_,mth A.t.h rfl rfl rfl,?_⟩
 walk_at "H"
 refine zo5 A.t.h ok fun t ht htF=>?_
 have A₁:=A.t.cons (o:=.list (S.lots.map zak)) ht rfl
 walk_at "H"
 refine ⟨_,mth A₁.h rfl rfl rfl,?_⟩
 walk_at "H"
 refine zgi A₁.h ok fun u hu huF=>?_
 have A₂:=A₁.cons (o:=.list (S.lines.map zac)) hu rfl
 have hH₂:=A₂.h
 have lt:List.lookup t ((u,O.list (S.lines.map zac))::(t,O.list (S.lots.map zak))::σ)=some (.list (S.lots.map zak)):=zam (za2 zai hu) zai
 have lu:List.lookup u ((u,O.list (S.lines.map zac))::(t,O.list (S.lots.map zak))::σ)=some (.list (S.lines.map zac)):=zai
 have t1:=A.t.h.notin ht
 have t2:t∉B.parts:=A.t.all.notin ht
 have u1:=A₁.h.notin hu
 have u2:u∉B.parts:=A₁.all.notin hu
 have hut:u≠t:=fun q=>hu (q ▸ zbn zai)
 generalize (u,O.list (S.lines.map zac))::(t,O.list (S.lots.map zak))::σ=τ at A₂ hH₂ lt lu ⊢
 clear A₁ ht hu
 walk_at "H"
 refine ⟨false,fun Q hQ=>?_,?_⟩
 ·walk_at "H"
  refine zdw hw ?_
  walk_at "H"
  refine A₂.item rfl ?_
  walk_at "H"
  ·rename_i q;exact absurd trivial q
  ·refine zdn (.ref lt) ?_
   walk_at "H"
   exact hQ
 refine zc5 ?_
 walk_at "H"
 refine ⟨false,fun Q hQ=>?_,?_⟩
 ·walk_at "H"
  refine zdn (.ref lu) ?_
  walk_at "H"
  refine A₂.item rfl ?_
  walk_at "H"
  refine zij lu A₂.b (fun p hp=>by simp [zac,isD,zms,(ok.line p hp).1.w.ok]) (fun x=>by simp [zac,toD,zin,PyData.depth,PyData.depthAll]) ?_
  walk_at "H"
  refine A₂.item rfl ?_
  walk_at "H"
  refine zij lt A₂.a (fun p hp=>by simp [zak,isD,zms,(ok.lot p hp).1.w.ok]) (fun x=>by simp [zak,toD,zin,PyData.depth,PyData.depthAll]) ?_
  walk_at "H"
  exact hQ
 refine zc5 ?_
 walk_at "H"
 refine ⟨false,fun Q hQ=>?_,?_⟩
 ·walk_at "H"
  refine zpb (.ref lt) (.ref lu) (by rw [List.length_map,List.length_map];(exact Ar.l02 (.le (.a (.v 0) (.v 1)) (.k 1000000)) [(.le (.v 0) (.k 100)),(.le (.v 1) (.k 100))] (by kernel_rfl) hnl hnn)) ?_
  walk_at "H"
  refine ⟨_,[],by simp,zau,fun D=>?_⟩
  rw [show S.lots.map zak++S.lines.map zac=(S.lots.map z9c++S.lines.map z7x).map V.tup by rw [List.map_append,List.map_map,List.map_map];rfl]
  refine zey (e:=V.tup) (fun z1=>.int 1) (fun z1=>false) (ws:=[]) (by rw [List.filter_eq_nil_iff.mpr fun z1 z2=>Bool.false_ne_true];rfl) (fun p hp=>⟨_,rfl,?_,fun z=>nomatch z⟩) ?_
  ·walk_at "H"
   exact ⟨rfl,rfl⟩
  refine zcj ?_
  refine Leaf.mk ⟨0,rfl,?_⟩
  walk_at "H"
  exact hQ
 refine zc5 ?_
 walk_at "H"
 refine ⟨_,_,za9 lt,?_⟩
 walk_at "H"
 refine zba lt htF (by rw [List.length_map];(exact Ar.l01 (.lt (.v 0) (.k 16777216)) [(.le (.v 0) (.k 100))] (by kernel_rfl) hnl)) ?_
 have A₃:=A₂.other (o:=.list (S.lots.map zak++[.none])) lt t1 t2 rfl
 have lt₃:(upd t (.list (S.lots.map zak++[.none])) τ).lookup t=some (.list (S.lots.map zak++[.none])):=by rw [zbb lt,if_pos rfl]
 have lu₃:(upd t (.list (S.lots.map zak++[.none])) τ).lookup u=some (.list (S.lines.map zac)):=by rw [zbb lt,if_neg hut];exact lu
 clear lt lu A₂ hH₂
 generalize upd t (.list (S.lots.map zak++[.none])) τ=τ₃ at A₃ lt₃ lu₃ ⊢
 walk_at "H"
 refine ⟨_,_,za9 lu₃,?_⟩
 walk_at "H"
 refine zba lu₃ huF (by rw [List.length_map];(exact Ar.l01 (.lt (.v 0) (.k 16777216)) [(.le (.v 0) (.k 100))] (by kernel_rfl) hnn)) ?_
 have A₄:=A₃.other (o:=.list (S.lines.map zac++[.none])) lu₃ u1 u2 rfl
 have lt₄:(upd u (.list (S.lines.map zac++[.none])) τ₃).lookup t=some (.list (S.lots.map zak++[.none])):=by rw [zbb lu₃,if_neg hut.symm];exact lt₃
 have lu₄:(upd u (.list (S.lines.map zac++[.none])) τ₃).lookup u=some (.list (S.lines.map zac++[.none])):=by rw [zbb lu₃,if_pos rfl]
 clear lt₃ lu₃ A₃
 generalize upd u (.list (S.lines.map zac++[.none])) τ₃=τ₄ at A₄ lt₄ lu₄ ⊢
 walk_at "H"
 refine ⟨_,mth A₄.h rfl rfl rfl,?_⟩
 walk_at "H"
 refine zo5 A₄.h ok fun t' ht' z1=>?_
 have A₅:=A₄.cons (o:=.list (S.lots.map zak)) ht' rfl
 have lt₅:List.lookup t ((t',O.list (S.lots.map zak))::τ₄)=_:=zam (za2 lt₄ ht') lt₄
 have lu₅:List.lookup u ((t',O.list (S.lots.map zak))::τ₄)=_:=zam (za2 lu₄ ht') lu₄
 have l5:List.lookup t' ((t',O.list (S.lots.map zak))::τ₄)=some (.list (S.lots.map zak)):=zai
 clear ht' lt₄ lu₄ A₄
 generalize (t',O.list (S.lots.map zak))::τ₄=τ₅ at A₅ lt₅ lu₅ l5 ⊢
 walk_at "H"
 refine zal (.ref l5) ?_
 walk_at "H"
 refine A₅.item rfl ?_
 walk_at "H"
 refine zal (.ref A₅.a) ?_
 walk_at "H"
 ·rename_i q;exact absurd trivial q
 refine ⟨_,mth A₅.h rfl rfl rfl,?_⟩
 walk_at "H"
 refine zgi A₅.h ok fun u' hu' z1=>?_
 have A₆:=A₅.cons (o:=.list (S.lines.map zac)) hu' rfl
 have lt₆:List.lookup t ((u',O.list (S.lines.map zac))::τ₅)=_:=zam (za2 lt₅ hu') lt₅
 have lu₆:List.lookup u ((u',O.list (S.lines.map zac))::τ₅)=_:=zam (za2 lu₅ hu') lu₅
 have l6:List.lookup u' ((u',O.list (S.lines.map zac))::τ₅)=some (.list (S.lines.map zac)):=zai
 clear hu' lt₅ lu₅ A₅ l5
 generalize (u',O.list (S.lines.map zac))::τ₅=τ₆ at A₆ lt₆ lu₆ l6 ⊢
 walk_at "H"
 refine zal (.ref l6) ?_
 walk_at "H"
 refine A₆.item rfl ?_
 walk_at "H"
 refine zal (.ref A₆.b) ?_
 walk_at "H"
 ·rename_i q;exact absurd trivial q
 refine zal (.ref lt₆) ?_
 walk_at "H"
 refine A₆.item rfl ?_
 walk_at "H"
 refine zal (.ref A₆.a) ?_
 rw [List.length_append,Int.natCast_add]
 walk_at "H"
 ·refine zal (.ref lu₆) ?_
  walk_at "H"
  refine A₆.item rfl ?_
  walk_at "H"
  refine zal (.ref A₆.b) ?_
  rw [List.length_append,Int.natCast_add]
  walk_at "H"
  have e:(((S.lines.map zac).length:Int)+(([V.none]:List V).length:Nat) == ((S.lines.map zac).length:Int)+1)=true:=beq_self_eq_true _
  rw [e]
  exact h S B kn τ₆ ⟨A₆,ok,A.hF,A.hB⟩ rfl hn
 ·rename_i q;exact absurd rfl q
theorem z5s (hp:L11 c.k) (A:Tw c.k c.F f H S B base kn σ) {o:Addr} (eo:B.o=o) {cell:Int} (hx:Sz 1048600 cell) (hn:S.gave.length+S.came.length<1000) (h:Nx c f H o base (S.gave.length+S.came.length+1) P):CallN c (d+12) "_law_deed" [.ref H.a,.ref o,.int cell] σ P X:=by
 subst eo
 have hh:=hp.toHelps
 have h':Nx c f H B.o base (S.gave.length+S.came.length) P:=fun S' B' kn' σ' A' e z=>h S' B' kn' σ' A' e (Nat.le_succ_of_le z)
 have m8:=zcz (a:=cell) 8 (by decide)
 obtain ⟨v,hv,i,rfl,hi⟩:=zho (Q:=fun v=>∃ i:Int,v=.int i/\(i=0\/i=1\/i=2\/i=3)) (vs:=[.int 0,.int 0,.int 0,.int 1,.int 1,.int 1,.int 2,.int 3])
  (all_cons ⟨_,rfl,.inl rfl⟩ (all_cons ⟨_,rfl,.inl rfl⟩ (all_cons ⟨_,rfl,.inl rfl⟩ (all_cons ⟨_,rfl,.inr (.inl rfl)⟩ (all_cons ⟨_,rfl,.inr (.inl rfl)⟩ (all_cons ⟨_,rfl,.inr (.inl rfl)⟩ (all_cons ⟨_,rfl,.inr (.inr (.inl rfl))⟩ (all_cons ⟨_,rfl,.inr (.inr (.inr rfl))⟩ zbc)))))))) m8.1 m8.2
 refine zae hp.f_law_deed ?_
 walk_at "X"
 refine zag (.lst _) m8.1 hv ?_
 clear hv
 rcases hi with rfl | rfl | rfl | rfl
 ·walk_at "X"
  refine zwd hp A.t (hx.div (by decide)) fun vs h1 h2=>?_
  walk_at "X"
  exact z2w hp A rfl h1 h2 hn fun S' B' kn' σ' A' e z=>zas (h S' B' kn' σ' A' e z)
 ·walk_at "X"
  refine zwd hp A.t (hx.div (by decide)) fun vs h1 h2=>?_
  walk_at "X"
  exact z2v hp A rfl h1 h2 hn fun S' B' kn' σ' A' e z=>zas (h S' B' kn' σ' A' e z)
 ·walk_at "X"
  refine zb1 hh hx (by exact Ar.l00 (.ile (.k 0) (.k 9)) [] (by kernel_rfl)) (by exact Ar.l00 (.ile (.k 9) (.k 1000)) [] (by kernel_rfl)) ?_
  walk_at "X"
  refine A.t.item rfl ?_
  walk_at "X"
  refine zag (.ref A.t.m) (by exact Ar.l00 (.ile (.k 0) (.k 1)) [] (by kernel_rfl)) rfl ?_
  walk_at "X"
  ·intro t ht htF
   have A₁:Tw c.k c.F f H S B base kn ((t,.dictI [])::σ):=⟨A.t.cons ht rfl,A.ok,A.hF,A.hB⟩
   have hdl:List.lookup t ((t,O.dictI [])::σ)=some (.dictI []):=zai
   have m6:=zcz (a:=cell / 56) 6 (by decide)
   walk_at "X"
   obtain ⟨v,hv,hq⟩:=zho (Q:=NotInt ((t,.dictI [])::σ)) (vs:=[.bool true,.none,.str "0",.lst [.int 0],.tup [.int 0],.ref t]) (all_cons .bool (all_cons .none (all_cons .str (all_cons .lst (all_cons .tup (all_cons (.dict hdl) zbc)))))) m6.1 m6.2
   refine zag (.lst _) m6.1 hv ?_
   walk_at "X"
   exact zj9 hp A₁ rfl (.inl hq) fun S' B' kn' σ' A' e z=>zas (h' S' B' kn' σ' A' e z)
  ·exact zj9 hp A rfl (.inr ⟨_,rfl⟩) fun S' B' kn' σ' A' e z=>zas (h' S' B' kn' σ' A' e z)
 ·walk_at "X"
  refine A.t.item rfl ?_
  walk_at "X"
  refine zb1 hh hx (by exact Ar.l00 (.ile (.k 0) (.k 9)) [] (by kernel_rfl)) (by exact Ar.l00 (.ile (.k 9) (.k 1000)) [] (by kernel_rfl)) ?_
  walk_at "X"
  ·have m5:=zcz (a:=cell / 56) 5 (by decide)
   obtain ⟨v,hv,hq⟩:=zho (Q:=fun v=>NotInt σ v\/∃ i,v=.int i) (vs:=[.int (1000000000000+1),.none,.bool true,.str "5",.int (0 - 1)]) (all_cons (.inr ⟨_,rfl⟩) (all_cons (.inl .none) (all_cons (.inl .bool) (all_cons (.inl .str) (all_cons (.inr ⟨_,rfl⟩) zbc))))) m5.1 m5.2
   refine zag (.lst _) m5.1 hv ?_
   walk_at "X"
   exact zwf hp A rfl hq fun S' B' kn' σ' A' e z=>zas (h' S' B' kn' σ' A' e z)
  ·exact zwf hp A rfl (.inr ⟨_,rfl⟩) fun S' B' kn' σ' A' e z=>zas (h' S' B' kn' σ' A' e z)
end
theorem NoExc.nil:NoExc []:=fun z1 z2 e=>nomatch e
noncomputable abbrev S11:HS:=⟨0,[],[],[],[],[]⟩
theorem z9b:S11.Ok:=⟨Int.le_refl 0,by decide,by simp,by simp,.nil,.nil,rfl,Nat.zero_le _,Nat.zero_le _,Nat.zero_le _,Nat.zero_le _⟩
theorem zvv {r a1 a2 a3:Addr} {F:List Addr} {Q:Led->Prop} {base:Int} (h1:a1∉zab [(r,O.dictS [])]) (h2:a2∉zab [(a1,O.list []),(r,O.dictS [])]) (h3:a3∉zab [(a2,O.list []),(a1,O.list []),(r,O.dictS [])]) (f0:r∉F) (f1:a1∉F) (f2:a2∉F) (f3:a3∉F)
  (h:∀ (B:OB) (σ':Led),B.o=r->(∀ x∈B.parts,x∉F)->B.parts.Nodup->All (B.objs ⟨base,0,[],[],0,0,true⟩) σ'->NoExc σ'->Q σ') :
  List.lookup r [(a3,O.list [.int 0,.int 0]),(a2,O.list []),(a1,O.list []),(r,O.dictS [])]=some (.dictS [])/\Q (upd r (.dictS (List.zip (["base","day","lots","lines","came","known"]:List Str) [V.int base,V.int 0,V.ref a1,V.ref a2,V.ref a3,V.bool true])) [(a3,O.list [.int 0,.int 0]),(a2,O.list []),(a1,O.list []),(r,O.dictS [])]):=by
 have n:=((((New.one (σ:=[]) (fun q=>nomatch q) f0).step (L:=[(r,O.dictS [])]) h1 f1).step (L:=[(a1,O.list []),(r,O.dictS [])]) h2 f2).step (L:=[(a2,O.list []),(a1,O.list []),(r,O.dictS [])]) h3 f3).rev
 have all:All [(r,O.dictS []),(a1,O.list []),(a2,O.list []),(a3,O.list [.int 0,.int 0])] [(a3,O.list [.int 0,.int 0]),(a2,O.list []),(a1,O.list []),(r,O.dictS [])]:=New.allR n.nd
 have nx:NoExc [(a3,O.list [.int 0,.int 0]),(a2,O.list []),(a1,O.list []),(r,O.dictS [])]:=(((NoExc.nil.cons rfl).cons rfl).cons rfl).cons rfl
 have hl:=all (r,_) (.head _)
 have all':=all.put (o:=.dictS (OB.kv ⟨r,a1,a2,a3⟩ ⟨base,0,[],[],0,0,true⟩)) n.nd 0 rfl
 exact ⟨hl,h ⟨r,a1,a2,a3⟩ _ rfl n.fr n.nd all' (nx.upd hl rfl)⟩
inductive J11 (k:Base) (F:List Addr) (f:Str->Value) (H:HA) (o:Addr) (base:Int) (n:Nat) (σ:Led):Prop
 | mk (S:HS) (B:OB) (kn:Bool):Tw k F f H S B base kn σ->B.o=o->S.gave.length+S.came.length<=n->J11 k F f H o base n σ
theorem Nx.of {f:Str->Value} {H:HA} {o:Addr} {base:Int} {n:Nat} (h:∀ σ',J11 c.k c.F f H o base n σ'->P (.bool true) σ'):Nx c f H o base n P:=fun S' B' kn' σ' A e z=>h σ' ⟨S',B',kn',A,e,z⟩
noncomputable abbrev z06 (H:HA) (o:Addr) (xs:List Int):Rho:=[(2,.ref H.a),(1,.ref o),(0,.lst (xs.map .int))]
theorem zop {f:Str->Value} {H:HA} {o:Addr} {base:Int} {n:Nat} (hp:L11 c.k) {xs:List Int} (hn:n<=100) (hlen:xs.length<=63) (hb:∀ x∈xs,Builtin.Int.intBits x<=1048576) (hj:J11 c.k c.F f H o base n σ):JB c (d+12) X (zl1 3 zki) (z06 H o xs) σ (zw5 fun v z1=>v=.bool true):=by
 refine zc5 ?_
 walk_at "X"
 rw [ztt]
 have hsl:=zay (some 1) none xs
 have hsz:∀ x∈slice (some 1) none xs,Sz 1048600 x:=fun x hx=>(Sz.of_bits (hb x (zdb hx))).mono (by decide)
 generalize slice (some 1) none xs=ys at hsl hsz
 refine ⟨_,[],by simp,zau,?_⟩
 refine zb0 V.int (fun z1=>z06 H o xs) (fun left (_:Unit) σ'=>(∀ x∈left,Sz 1048600 x)/\∃ m,m+left.length<=200/\J11 c.k c.F f H o base m σ') ys () _ _ ?_ ⟨hsz,n,by (exact Ar.l03 (.le (.a (.v 0) (.v 1)) (.k 200)) [(.le (.v 0) (.k 100)),(.le (.v 2) (.k 63)),(.le (.v 1) (.v 2))] (by kernel_rfl) hn hlen hsl),hj⟩ (fun z1 x left σ₁ hj=>?_) fun z1 ρ σ₁ hm hj=>?_
 ·walk_at "sub"
 ·obtain ⟨h1,m,hm,S,B,kn,A,rfl,hq⟩:=hj
  rw [List.length_cons] at hm
  have hp':L11 (c.pro []).k:=hp
  walk_at "X"
  refine z5s (c:=c.pro []) hp' A rfl (h1 x (.head _)) (by exact Ar.l04 (.lt (.a (.v 0) (.v 1)) (.k 1000)) [(.le (.a (.v 2) (.a (.v 3) (.k 1))) (.k 200)),(.le (.a (.v 0) (.v 1)) (.v 2))] (by kernel_rfl) hm hq) (.of fun σ₂ j₂=>?_)
  obtain ⟨S₂,B₂,kn₂,A₂,e₂,h₂⟩:=j₂
  walk_at "X"
  refine zwj (c:=c.pro []) hp' A₂ e₂ h₂ (.of fun σ₃ j₃=>?_)
  walk_at "X"
  refine ⟨rfl,(),?_,fun y hy=>h1 y (.tail _ hy),_,?_,j₃⟩
  ·walk_at "sub"
  ·(exact Ar.l04 (.le (.a (.a (.a (.v 0) (.v 1)) (.k 1)) (.v 2)) (.k 200)) [(.le (.a (.v 3) (.a (.v 2) (.k 1))) (.k 200)),(.le (.a (.v 0) (.v 1)) (.v 3))] (by kernel_rfl) hm hq)
 ·obtain ⟨_,m,hm',S,B,kn,A,rfl,hq⟩:=hj
  refine za6 hm ?_
  walk_at "X"
  exact zwj hp A rfl hq (.of fun σ₂ z1=>zas rfl)
theorem zv0:OPart (.str "a"):=.str (by decide +kernel) (by decide +kernel)
theorem S_law (hp:L11 c.k) {xs:List Int} (hlen:xs.length<=63) (hb:∀ x∈xs,Builtin.Int.intBits x<=1048576):CallN c (d+13) "law" [.lst (xs.map .int)] [] (fun v z1=>v=.bool true) X:=by
 have hh:=hp.toHelps
 obtain ⟨C,f,K⟩:=hp.house
 refine zae hp.f_law ?_
 walk_at "X"
 refine z8o (by simp) (by decide) fun r hro hrF=>?_
 refine zf5 ?_
 walk_at "X"
 refine zf5 ?_
 walk_at "X"
 refine zf5 ?_
 walk_at "X"
 intro a1 h1o h1F
 refine zf5 ?_
 walk_at "X"
 intro a2 h2o h2F
 refine zf5 ?_
 walk_at "X"
 intro a3 h3o h3F
 refine zf5 ?_
 walk_at "X"
 refine z6i (zvv h1o h2o h3o hrF h1F h2F h3F fun B σ₁ eB hBF nd all nx=>?_)
 clear h1o h2o h3o h1F h2F h3F hro hrF
 subst eB
 walk_at "X"
 refine z8d K fun H σ₂ n0 hF hH0 o0=>?_
 have A:Tw c.k c.F f H S11 B (at_ xs 0 / 16) true σ₂:=⟨⟨hH0,nd,all.of fun x hx z e=>o0.new n0 x z e,fun x hx q=>by obtain ⟨v,e⟩:=all.has x q;exact n0 x hx (zbn e),hH0.all.noExc o0 nx rfl⟩,z9b,hF,hBF⟩
 clear hH0 n0 o0 nx all
 walk_at "X"
 ·have m2:=zcz (a:=at_ xs 0 / 8) 2 (by decide)
  generalize at_ xs 0 / 8 % 2=kind at m2 ⊢
  refine ⟨_,[],by simp,zej (n:=98) (by decide),?_⟩
  refine zb0 (fun i:Nat=>V.int i) (fun z1=>(3,.int kind)::z06 H B.o xs) (fun left (_:Unit) σ'=>∃ m,m+left.length<=98/\J11 c.k c.F f H B.o (at_ xs 0 / 16) m σ') (List.range 98) () _ _ ?_ ⟨0,by simp,S11,B,true,A,rfl,Nat.le_refl _⟩ (fun z1 i left σ₃ hj=>?_) fun z1 ρ σ₃ hm hj=>?_
  ·walk_at "sub"
  ·obtain ⟨m,hm,S,B',kn,A',e',hq⟩:=hj
   rw [List.length_cons] at hm
   have hp':L11 (c.pro []).k:=hp
   have fin:∀ σ',J11 c.k c.F f H B.o (at_ xs 0 / 16) (S.gave.length+S.came.length+1) σ'->∃ m,m+left.length<=98/\J11 c.k c.F f H B.o (at_ xs 0 / 16) m σ':=fun σ' j=>⟨_,by (exact Ar.l04 (.le (.a (.a (.a (.v 0) (.v 1)) (.k 1)) (.v 2)) (.k 98)) [(.le (.a (.v 3) (.a (.v 2) (.k 1))) (.k 98)),(.le (.a (.v 0) (.v 1)) (.v 3))] (by kernel_rfl) hm hq),j⟩
   rcases (by lia:kind=0\/kind=1) with rfl | rfl
   ·walk_at "X"
    refine zag (.lst _) (by decide) rfl ?_
    walk_at "X"
    refine z0n (c:=c.pro []) hp' A' e' zv0 .int .int (by exact Ar.l04 (.lt (.a (.v 0) (.v 1)) (.k 1000)) [(.le (.a (.v 2) (.a (.v 3) (.k 1))) (.k 98)),(.le (.a (.v 0) (.v 1)) (.v 2))] (by kernel_rfl) hm hq) (.of fun σ₄ j₄=>?_)
    walk_at "X"
    refine ⟨rfl,(),?_,fin σ₄ j₄⟩
    walk_at "sub"
   ·walk_at "X"
    refine zag (.lst _) (by decide) rfl ?_
    walk_at "X"
    refine zwc (c:=c.pro []) hp' A' e' zv0 .int .int .int (by exact Ar.l04 (.lt (.a (.v 0) (.v 1)) (.k 1000)) [(.le (.a (.v 2) (.a (.v 3) (.k 1))) (.k 98)),(.le (.a (.v 0) (.v 1)) (.v 2))] (by kernel_rfl) hm hq) (.of fun σ₄ j₄=>?_)
    walk_at "X"
    refine ⟨rfl,(),?_,fin σ₄ j₄⟩
    walk_at "sub"
  ·obtain ⟨m,hm',S,B',kn,A',e',hq⟩:=hj
   refine za6 hm ?_
   rw [List.length_nil] at hm'
   have fin:J11 c.k c.F f H B.o (at_ xs 0 / 16) 100 σ₃:=⟨S,B',kn,A',e',by (exact Ar.l03 (.le (.a (.v 0) (.v 1)) (.k 100)) [(.le (.a (.v 2) (.k 0)) (.k 98)),(.le (.a (.v 0) (.v 1)) (.v 2))] (by kernel_rfl) hm' hq)⟩
   walk_at "X"
   ·refine zwc hp A' e' zv0 .int .int .int (by exact Ar.l03 (.lt (.a (.v 0) (.v 1)) (.k 1000)) [(.le (.a (.v 2) (.k 0)) (.k 98)),(.le (.a (.v 0) (.v 1)) (.v 2))] (by kernel_rfl) hm' hq) (.of fun σ₄ j₄=>?_)
    obtain ⟨S₄,B₄,kn₄,A₄,e₄,h₄⟩:=j₄
    walk_at "X"
    refine zwf hp A₄ e₄ (.inr ⟨_,rfl⟩) (.of fun σ₅ j₅=>?_)
    walk_at "X"
    refine za6 ?_ (zop hp (n:=S₄.gave.length+S₄.came.length) (by exact Ar.l05 (.le (.a (.v 0) (.v 1)) (.k 100)) [(.le (.a (.v 2) (.k 0)) (.k 98)),(.le (.a (.v 3) (.v 4)) (.v 2)),(.le (.a (.v 0) (.v 1)) (.a (.a (.v 3) (.v 4)) (.k 1)))] (by kernel_rfl) hm' hq h₄) hlen hb j₅)
    walk_at "sub"
   all_goals
    refine za6 ?_ (zop hp (Nat.le_refl 100) hlen hb fin)
    walk_at "sub"
 ·refine za6 ?_ (zop hp (Nat.zero_le 100) hlen hb ⟨S11,B,true,A,rfl,Nat.le_refl _⟩)
  walk_at "sub"
inductive z86 (h:Heap) (name:Str) (bm:List Value):Prop
 | mk (C N:Addr) (nm:_) (q:_) (bs:_) (hdct:_) (sn:_) (sub:_) (ab:_) (col:_) (dd:_) (k0:_) (k1:_) (k2:_) (k3:_) (k5:_):h.nsMap mainGlobals name=some (.ref C)->h.get? C=some (excClassObj nm q C N bs bm hdct sn sub ab col dd k0 k1 k2 k3 k5 VN)->h.Ns N (h.nsMap N)->z86 h name bm
theorem zxo {h:Heap} {name:Str} {chain:List Str} (x:h.ownExcOk name chain VE VN=true):z86 h name ((chain.map fun n=>(h.nsMap mainGlobals n).getD .none)++VE):=by
 obtain ⟨C,N,nm,q,bs,hdct,sn,sub,ab,col,dd,k0,k1,k2,k3,k5,hb,hC,hN,_⟩:=Heap.ownExc_of_ok x
 exact ⟨C,N,nm,q,bs,hdct,sn,sub,ab,col,dd,k0,k1,k2,k3,k5,hb,hC,hN⟩
theorem zt6 {h:Heap} {name:Str} {chain:List Str} (x:h.ownExcOk name chain VE VN=true) (y:zk5 h name=true) (T:OwnTl h ((chain.map fun n=>(h.nsMap mainGlobals n).getD .none)++VE)) :
  h.nsMap mainGlobals name=some (.ref (z18 h name))/\OwnE h (z18 h name) ((chain.map fun n=>(h.nsMap mainGlobals n).getD .none)++VE):=by
 obtain ⟨C,N,nm,q,bs,hdct,sn,sub,ab,col,dd,k0,k1,k2,k3,k5,hb,hC,hN⟩:=zxo x
 have ea:z18 h name=C:=by unfold z18;rw [hb]
 rw [ea]
 refine ⟨hb,⟨nm,q,N,bs,hdct,sn,sub,ab,col,dd,k0,k1,k2,k3,k5,_,hC,hN,fun n hn=>?_⟩,T⟩
 unfold zk5 at y
 cases hf:h.clsAt mainGlobals name with
 | none=>rw [hf] at y;cases y
 | some z=>
  obtain ⟨C',o',cd'⟩:=z
  rw [hf] at y
  obtain ⟨hn',ho',hd'⟩:=Heap.clsAt_spec hf
  rw [hb] at hn'
  obtain rfl:C=C':=by injection hn' with q1;injection q1
  rw [hC] at ho'
  obtain rfl:=Option.some.inj ho'
  obtain rfl:_=cd':=by injection hd'
  exact Option.isNone_iff_eq_none.mp (List.all_eq_true.mp y n hn)
theorem zoy {l:List Nat} (h:zvy l=true):l.Nodup:=by
 induction l with
 | nil=>exact .nil
 | cons a r ih=>
  obtain ⟨h1,h2⟩:=zaa (show (r.all (fun b=>b != a) && zvy r)=true from h)
  refine List.nodup_cons.mpr ⟨fun q=>?_,ih h2⟩
  have:=List.all_eq_true.mp h1 a q
  rw [bne_self_eq_false] at this;cases this
theorem errs_of {k:Base} {h0:Heap} (hc:errChk0 h0=true) (hk:∀ b o,h0.get? b=some o->k.h0.get? b=some o) (hg:k.h0.Ns mainGlobals k.mg) (hv:Blt k "ValueError" (.type "ValueError")):∃ ad,Errs k ad:=by
 obtain ⟨hc,c4⟩:=zaa hc
 obtain ⟨hc,c3⟩:=zaa hc
 obtain ⟨c1,c2⟩:=zaa hc
 obtain ⟨c2,c5⟩:=zaa c2
 have em:k.mg=h0.nsMap mainGlobals:=by
  have h1:k.h0.Ns mainGlobals (h0.nsMap mainGlobals):=(Heap.Ns.of_isNs c1).keeps hk
  rw [hg.eq_nsMap,h1.eq_nsMap]
 obtain ⟨l1,l2⟩:=zt6 (chain:=[]) c2 c5 .base
 have hl:OwnTl h0 (((["LotError"]:List Str).map fun n=>(h0.nsMap mainGlobals n).getD .none)++VE):=by
  obtain ⟨nm,q,N,bs,hdct,sn,sub,ab,col,dd,k0,k1,k2,k3,k5,mN,h1,h2,h3⟩:=l2.at_
  show OwnTl h0 ((h0.nsMap mainGlobals "LotError").getD .none::VE)
  rw [l1]
  exact .own h1 h2 h3 .base
 refine ⟨z18 h0,⟨by rw [em];exact l1,l2.keeps hk⟩,fun x hx=>?_,zoy c4,hv⟩
 obtain ⟨d3,d6⟩:=zaa (List.all_eq_true.mp c3 x hx)
 obtain ⟨s1,s2⟩:=zt6 d3 d6 hl
 rw [show (((["LotError"]:List Str).map fun n=>(h0.nsMap mainGlobals n).getD .none)++VE)=.ref (z18 h0 "LotError")::VE by show (h0.nsMap mainGlobals "LotError").getD .none::VE=_;rw [l1];rfl] at s2
 exact ⟨by rw [em];exact s1,s2.keeps hk⟩
end Mine
end
section
open PySem PySem.W PyProof.Rows
namespace Mine
noncomputable def gl:Glob:=⟨[("MOST",1000000000000),("MOST_ROWS",100),("MOST_SIGNS",12)],[("LETTERS","abcdefghijklmnopqrstuvwxyz")],["is_whole","is_ware","is_day","is_count","is_lot","is_line","need","good","need_rows","best","_law_at","_law_whole","_law_mixed","_law_word","_law_wide","_law_parts","_law_right","_law_act","_law_kind","_law_said","_law_put","_law_cancel","_law_go","_law_alike","_law_deed","law","House"],true⟩
theorem zh5 {k:Base} (hp:TopAt k vw (looseW vw [])):Fn k "is_whole" (zfo pw 14):=by refine hp.def2 (i:=12) ?_ ?_ ?_ ?_ ?_<;>kernel_rfl
theorem zj4 {k:Base} (hp:TopAt k vw (looseW vw [])):Fn k "is_ware" (zfo pw 15):=by refine hp.def2 (i:=13) ?_ ?_ ?_ ?_ ?_<;>kernel_rfl
theorem zmy {k:Base} (hp:TopAt k vw (looseW vw [])):Fn k "is_day" (zfo pw 16):=by refine hp.def2 (i:=14) ?_ ?_ ?_ ?_ ?_<;>kernel_rfl
theorem zh6 {k:Base} (hp:TopAt k vw (looseW vw [])):Fn k "is_count" (zfo pw 17):=by refine hp.def2 (i:=15) ?_ ?_ ?_ ?_ ?_<;>kernel_rfl
theorem zmx {k:Base} (hp:TopAt k vw (looseW vw [])):Fn k "is_lot" (zfo pw 18):=by refine hp.def2 (i:=16) ?_ ?_ ?_ ?_ ?_<;>kernel_rfl
theorem zj5 {k:Base} (hp:TopAt k vw (looseW vw [])):Fn k "is_line" (zfo pw 19):=by refine hp.def2 (i:=17) ?_ ?_ ?_ ?_ ?_<;>kernel_rfl
theorem zvh {k:Base} (hp:TopAt k vw (looseW vw [])):Fn k "need" (zfo pw 20):=by refine hp.def2 (i:=18) ?_ ?_ ?_ ?_ ?_<;>kernel_rfl
theorem zvi {k:Base} (hp:TopAt k vw (looseW vw [])):Fn k "good" (zfo pw 21):=by refine hp.def2 (i:=19) ?_ ?_ ?_ ?_ ?_<;>kernel_rfl
theorem zga {k:Base} (hp:TopAt k vw (looseW vw [])):Fn k "need_rows" (zfo pw 22):=by refine hp.def2 (i:=20) ?_ ?_ ?_ ?_ ?_<;>kernel_rfl
theorem zvj {k:Base} (hp:TopAt k vw (looseW vw [])):Fn k "best" (zfo pw 24):=by refine hp.def2 (i:=21) ?_ ?_ ?_ ?_ ?_<;>kernel_rfl
theorem zmw {k:Base} (hp:TopAt k vw (looseW vw [])):Fn k "_law_at" (zfo pw 28):=by refine hp.def2 (i:=23) ?_ ?_ ?_ ?_ ?_<;>kernel_rfl
theorem zgb {k:Base} (hp:TopAt k vw (looseW vw [])):Fn k "_law_whole" (zfo pw 29):=by refine hp.def2 (i:=24) ?_ ?_ ?_ ?_ ?_<;>kernel_rfl
theorem zge {k:Base} (hp:TopAt k vw (looseW vw [])):Fn k "_law_mixed" (zfo pw 30):=by refine hp.def2 (i:=25) ?_ ?_ ?_ ?_ ?_<;>kernel_rfl
theorem zh0 {k:Base} (hp:TopAt k vw (looseW vw [])):Fn k "_law_word" (zfo pw 31):=by refine hp.def2 (i:=26) ?_ ?_ ?_ ?_ ?_<;>kernel_rfl
theorem zh1 {k:Base} (hp:TopAt k vw (looseW vw [])):Fn k "_law_wide" (zfo pw 32):=by refine hp.def2 (i:=27) ?_ ?_ ?_ ?_ ?_<;>kernel_rfl
theorem zgd {k:Base} (hp:TopAt k vw (looseW vw [])):Fn k "_law_parts" (zfo pw 33):=by refine hp.def2 (i:=28) ?_ ?_ ?_ ?_ ?_<;>kernel_rfl
theorem zgc {k:Base} (hp:TopAt k vw (looseW vw [])):Fn k "_law_right" (zfo pw 34):=by refine hp.def2 (i:=29) ?_ ?_ ?_ ?_ ?_<;>kernel_rfl
theorem zj3 {k:Base} (hp:TopAt k vw (looseW vw [])):Fn k "_law_act" (zfo pw 35):=by refine hp.def2 (i:=30) ?_ ?_ ?_ ?_ ?_<;>kernel_rfl
theorem zh3 {k:Base} (hp:TopAt k vw (looseW vw [])):Fn k "_law_kind" (zfo pw 36):=by refine hp.def2 (i:=31) ?_ ?_ ?_ ?_ ?_<;>kernel_rfl
theorem zh2 {k:Base} (hp:TopAt k vw (looseW vw [])):Fn k "_law_said" (zfo pw 37):=by refine hp.def2 (i:=32) ?_ ?_ ?_ ?_ ?_<;>kernel_rfl
theorem zj2 {k:Base} (hp:TopAt k vw (looseW vw [])):Fn k "_law_put" (zfo pw 38):=by refine hp.def2 (i:=33) ?_ ?_ ?_ ?_ ?_<;>kernel_rfl
theorem ze2 {k:Base} (hp:TopAt k vw (looseW vw [])):Fn k "_law_cancel" (zfo pw 39):=by refine hp.def2 (i:=34) ?_ ?_ ?_ ?_ ?_<;>kernel_rfl
theorem zmv {k:Base} (hp:TopAt k vw (looseW vw [])):Fn k "_law_go" (zfo pw 40):=by refine hp.def2 (i:=35) ?_ ?_ ?_ ?_ ?_<;>kernel_rfl
theorem zgf {k:Base} (hp:TopAt k vw (looseW vw [])):Fn k "_law_alike" (zfo pw 41):=by refine hp.def2 (i:=36) ?_ ?_ ?_ ?_ ?_<;>kernel_rfl
theorem zh4 {k:Base} (hp:TopAt k vw (looseW vw [])):Fn k "_law_deed" (zfo pw 42):=by refine hp.def2 (i:=37) ?_ ?_ ?_ ?_ ?_<;>kernel_rfl
theorem z0e {k:Base} (hp:TopAt k vw (looseW vw [])):Fn k "law" (zfo pw 43):=by refine hp.def2 (i:=38) ?_ ?_ ?_ ?_ ?_<;>kernel_rfl
theorem z76 {k:Base} (hd:k.hd=true) (hp:TopAt k vw (looseW vw [])) (hh:Def k "House"):GlobOk k gl:=by
 refine .of hp.ok (all_cons (hp.constI (by kernel_rfl)) (all_cons (hp.constI (by kernel_rfl)) (all_cons (hp.constI (by kernel_rfl)) zbc))) (all_cons (hp.constS (by kernel_rfl)) zbc) (all_cons (zh5 hp).def (all_cons (zj4 hp).def (all_cons (zmy hp).def (all_cons (zh6 hp).def (all_cons (zmx hp).def (all_cons (zj5 hp).def (all_cons (zvh hp).def (all_cons (zvi hp).def (all_cons (zga hp).def (all_cons (zvj hp).def (all_cons (zmw hp).def (all_cons (zgb hp).def (all_cons (zge hp).def (all_cons (zh0 hp).def (all_cons (zh1 hp).def (all_cons (zgd hp).def (all_cons (zgc hp).def (all_cons (zj3 hp).def (all_cons (zh3 hp).def (all_cons (zh2 hp).def (all_cons (zj2 hp).def (all_cons (ze2 hp).def (all_cons (zmv hp).def (all_cons (zgf hp).def (all_cons (zh4 hp).def (all_cons (z0e hp).def (all_cons hh zbc))))))))))))))))))))))))))) (fun f=>?_) hd
 cases f <;> exact hp.blt (by decide +kernel) (by decide) (by rfl)
theorem tl0 {x:Str} {y:Option Value} (h:fastLookup "object" x=some y):typeLookup (.type "object") x=pure y:=by rw [typeLookup_type,builtinLookup_eq_fast,h]
noncomputable def hcl:List ClsRec:=plainsOf vw (looseW vw [])
theorem hcl_len:0<hcl.length:=by decide +kernel
noncomputable def hcr:ClsRec:=(hcl[0]'hcl_len).withCmp
noncomputable def mst (i:Nat):Stmt:=(z9u (zfo pw 26)).getD i (.Pass ⟨0,0,0,0⟩)
theorem z4u:hcr.meths.length=14:=by decide +kernel
noncomputable def hm (i:Nat) (h:i<14):MethRec:=hcr.meths[i]'(by rw [z4u];exact h)
theorem zd3 (i:Nat) (h:i<14):hm i h∈hcr.meths:=List.getElem_mem _
theorem zx8 {k:Base} (hd:k.hd=true) (hp:TopAt k vw (looseW vw [])) (hE:TopE vw (looseW vw []) k.mg k.h0) (hT:GlobOk k gl->za5 k/\FnT k "best" 2 ztk):∃ C f,(znq k C f)/\GlobOk k gl:=by
 obtain ⟨C,N,mN,hC,P⟩:=hE (hcl[0]'hcl_len) (List.getElem_mem _)
 replace P:PlainAt k.h0 hcr C N mN:=P
 replace hC:k.mg "House"=some (.ref C):=hC
 have hG:=z76 hd hp ⟨_,hC,.inr (.inr (.inr ⟨C,N,mN,rfl,P.cls⟩))⟩
 have hK:Cls k C N mN:=⟨P.cls,P.quiet _ (by decide +kernel),P.quiet _ (by decide +kernel),P.quiet _ (by decide +kernel)⟩
 have m0:=zbw P hK (x:="__init__") (zd3 0 (by decide)) (by kernel_rfl) (st:=mst 0) (by kernel_rfl) (by kernel_rfl) (by kernel_rfl) (by kernel_rfl) (by kernel_rfl) (by kernel_rfl) (y:=some (.builtin "object.__init__")) (tl0 (by kernel_rfl))
 have m1:=zbw P hK (x:="receive") (zd3 1 (by decide)) (by kernel_rfl) (st:=mst 1) (by kernel_rfl) (by kernel_rfl) (by kernel_rfl) (by kernel_rfl) (by kernel_rfl) (by kernel_rfl) (y:=none) (tl0 (by kernel_rfl))
 have m2:=zbw P hK (x:="order") (zd3 2 (by decide)) (by kernel_rfl) (st:=mst 2) (by kernel_rfl) (by kernel_rfl) (by kernel_rfl) (by kernel_rfl) (by kernel_rfl) (by kernel_rfl) (y:=none) (tl0 (by kernel_rfl))
 have m3:=zbw P hK (x:="cancel") (zd3 3 (by decide)) (by kernel_rfl) (st:=mst 3) (by kernel_rfl) (by kernel_rfl) (by kernel_rfl) (by kernel_rfl) (by kernel_rfl) (by kernel_rfl) (y:=none) (tl0 (by kernel_rfl))
 have m4:=zbw P hK (x:="plan") (zd3 4 (by decide)) (by kernel_rfl) (st:=mst 4) (by kernel_rfl) (by kernel_rfl) (by kernel_rfl) (by kernel_rfl) (by kernel_rfl) (by kernel_rfl) (y:=none) (tl0 (by kernel_rfl))
 have m5:=zbw P hK (x:="throw") (zd3 5 (by decide)) (by kernel_rfl) (st:=mst 5) (by kernel_rfl) (by kernel_rfl) (by kernel_rfl) (by kernel_rfl) (by kernel_rfl) (by kernel_rfl) (y:=none) (tl0 (by kernel_rfl))
 have m6:=zbw P hK (x:="deal") (zd3 6 (by decide)) (by kernel_rfl) (st:=mst 6) (by kernel_rfl) (by kernel_rfl) (by kernel_rfl) (by kernel_rfl) (by kernel_rfl) (by kernel_rfl) (y:=none) (tl0 (by kernel_rfl))
 have m7:=zbw P hK (x:="go_to") (zd3 7 (by decide)) (by kernel_rfl) (st:=mst 7) (by kernel_rfl) (by kernel_rfl) (by kernel_rfl) (by kernel_rfl) (by kernel_rfl) (by kernel_rfl) (y:=none) (tl0 (by kernel_rfl))
 have m8:=zbw P hK (x:="there") (zd3 8 (by decide)) (by kernel_rfl) (st:=mst 8) (by kernel_rfl) (by kernel_rfl) (by kernel_rfl) (by kernel_rfl) (by kernel_rfl) (by kernel_rfl) (y:=none) (tl0 (by kernel_rfl))
 have m9:=zbw P hK (x:="open_lines") (zd3 9 (by decide)) (by kernel_rfl) (st:=mst 9) (by kernel_rfl) (by kernel_rfl) (by kernel_rfl) (by kernel_rfl) (by kernel_rfl) (by kernel_rfl) (y:=none) (tl0 (by kernel_rfl))
 obtain ⟨fI,oI,i1,i2,i3⟩:=m0.2.2
 refine ⟨C,fun x=>(mN x).getD .none,⟨?_,?_,⟨N,mN,fI,oI,hK,i1,by rw [i1];rfl,i2,i3⟩,hC,.of (N:=zml) m0.2.1 hG (by kernel_rfl),.of (N:=zhr) m1.2.1 hG (by kernel_rfl),.of (N:=zkx) m2.2.1 hG (by kernel_rfl),.of (N:=zi4) m3.2.1 hG (by kernel_rfl),.of (N:=zmk) m4.2.1 hG (by kernel_rfl),.of (N:=zkv) m5.2.1 hG (by kernel_rfl),.of (N:=zmm) m6.2.1 hG (by kernel_rfl),.of (N:=zky) m7.2.1 hG (by kernel_rfl),.of (N:=zkw) m8.2.1 hG (by kernel_rfl),.of (N:=zev) m9.2.1 hG (by kernel_rfl),hd,(hT hG).1,(hT hG).2⟩,hG⟩
 ·refine (all_cons ⟨N,mN,hK,P.quiet _ (by decide +kernel),tl0 (by kernel_rfl)⟩ (all_cons ⟨N,mN,hK,P.quiet _ (by decide +kernel),tl0 (by kernel_rfl)⟩ (all_cons ⟨N,mN,hK,P.quiet _ (by decide +kernel),tl0 (by kernel_rfl)⟩ (all_cons ⟨N,mN,hK,P.quiet _ (by decide +kernel),tl0 (by kernel_rfl)⟩ (all_cons ⟨N,mN,hK,P.quiet _ (by decide +kernel),tl0 (by kernel_rfl)⟩ (all_cons ⟨N,mN,hK,P.quiet _ (by decide +kernel),tl0 (by kernel_rfl)⟩ zbc))))))
 ·refine (all_cons m1.1 (all_cons m2.1 (all_cons m3.1 (all_cons m4.1 (all_cons m5.1 (all_cons m6.1 (all_cons m7.1 (all_cons m8.1 (all_cons m9.1 zbc)))))))))
theorem pg_of {k:Base} (hd:k.hd=true) (hp:TopAt k vw (looseW vw [])) (errs:∃ ad,Errs k ad) (hE:TopE vw (looseW vw []) k.mg k.h0):L11 k:=by
 obtain ⟨C,f,hh,hG⟩:=zx8 hd hp hE fun hG=>⟨⟨.of (N:=zr7) (zh5 hp) hG (by kernel_rfl),.of (N:=zus) (zj4 hp) hG (by kernel_rfl),.of (N:=zx0) (zmy hp) hG (by kernel_rfl),.of (N:=zr8) (zh6 hp) hG (by kernel_rfl),.of (N:=zxz) (zmx hp) hG (by kernel_rfl),.of (N:=zut) (zj5 hp) hG (by kernel_rfl),.of (N:=z4l) (zvh hp) hG (by kernel_rfl),.of (N:=z4m) (zvi hp) hG (by kernel_rfl),.of (N:=zog) (zga hp) hG (by kernel_rfl)⟩,.of (N:=z4n) (zvj hp) hG (by kernel_rfl)⟩
 have house:∃ C f,znq k C f:=⟨C,f,hh⟩
 have f_law_at:FnT k "_law_at" 2 zpy:=.of (N:=zxx) (zmw hp) hG (by kernel_rfl)
 have f_law_word:FnT k "_law_word" 2 zji:=.of (N:=zr6) (zh0 hp) hG (by kernel_rfl)
 have f_law_mixed:FnT k "_law_mixed" 2 zha:=.of (N:=zoi) (zge hp) hG (by kernel_rfl)
 have f_law_whole:FnT k "_law_whole" 1 zd9:=.of (N:=zoh) (zgb hp) hG (by kernel_rfl)
 have f_law_wide:FnT k "_law_wide" 1 zel:=.of (N:=zkr) (zh1 hp) hG (by kernel_rfl)
 have f_law_parts:FnT k "_law_parts" 3 zbd:=.of (N:=zi2) (zgd hp) hG (by kernel_rfl)
 have f_law_right:FnT k "_law_right" 1 zcl:=.of (N:=zi1) (zgc hp) hG (by kernel_rfl)
 have f_law_act:FnT k "_law_act" 3 zf7:=.of (N:=zmj) (zj3 hp) hG (by kernel_rfl)
 have f_law_kind:FnT k "_law_kind" 1 zcw:=.of (N:=zkt) (zh3 hp) hG (by kernel_rfl)
 have f_law_said:FnT k "_law_said" 3 zem:=.of (N:=zks) (zh2 hp) hG (by kernel_rfl)
 have f_law_put:FnT k "_law_put" 4 zbx:=.of (N:=zmi) (zj2 hp) hG (by kernel_rfl)
 have f_law_cancel:FnT k "_law_cancel" 3 zc8:=.of (N:=zhq) (ze2 hp) hG (by kernel_rfl)
 have f_law_go:FnT k "_law_go" 3 zhb:=.of (N:=zoj) (zmv hp) hG (by kernel_rfl)
 have f_law_alike:FnT k "_law_alike" 2 zd1:=.of (N:=zi3) (zgf hp) hG (by kernel_rfl)
 have f_law_deed:FnT k "_law_deed" 3 zen:=.of (N:=zku) (zh4 hp) hG (by kernel_rfl)
 have f_law:FnT k "law" 1 zki:=.of (N:=zxy) (z0e hp) hG (by kernel_rfl)
 constructor <;> (repeat (first | assumption | constructor))
theorem zuz:(defOf vw (Str.ofString "law")).isSome=true:=by kernel_rfl
noncomputable def ldef:DefRec × List (Str × Expr):=(defOf vw (Str.ofString "law")).get zuz
theorem ldef_eq:defOf vw Challenge.rw_uf040031_11.row.name=some (ldef.1,ldef.2):=by kernel_rfl
theorem ldef_p:Challenge.rw_uf040031_11.row.prog.theDef Challenge.rw_uf040031_11.row.name=some (ldef.1.params,ldef.1.body,ldef.1.scope):=by kernel_rfl
theorem ldef_k:kwWritten? ldef.1.params.kwonlyargs ldef.1.params.kw_defaults=some ldef.2:=by kernel_rfl
theorem said:Challenge.rw_uf040031_11.wellSaid=true:=by
 unfold OpenLaw.wellSaid
 repeat' with_reducible first | refine look_both ?_ ?_ | unfold OpenRow.wellSaid | unfold OpenRow.partSaid | unfold looksOpen
 all_goals decide +kernel
end Mine
theorem PySem.Challenge.cw_uf040031_11_holds : PySem.Challenge.rw_uf040031_11.Holds := by
 w_on
 refine holds_law Mine.said fun said=>?_
 refine holds_open (q:=Mine.vw) (loose:=[]) (Xt:=Mine.xt) (XP:=XL Mine.vw []) (Yf:=Hook.obs Mine.errHook0) (Ya:=Hook.val Mine.errHook0) (YP:=Hook.says Mine.errHook0) (N:=9000) Mine.left (Hook.of Mine.errHook0) (Hook.keeps Mine.errHook0) (fun s e=>xl_of s (Bool.and_eq_true_iff.mp e).1) XL.keeps (d:=Mine.ldef.1) (kwd:=Mine.ldef.2) Mine.ldef_eq Mine.ldef_p Mine.ldef_k (fun s e=>recFacts_of (Bool.and_eq_true_iff.mp e).2) (by rfl) (by first | assumption | decide +kernel) (by decide +kernel) ⟨rfl,rfl,rfl,rfl,rfl,by decide +kernel⟩ ?hw ?hc
 clear said
 (case hw=>w_witness2)
 intro w s₀ s₁ mg mb G Y fa o pm cd doc dV kV ho hd hcd hD hmg hg args vals as hpre hlay hrd hwl hlo
 refine Ground.open G ?_
 intro T B D TE TW
 try (refine guard_noD D (by decide +kernel) ?_;clear D)
 have hmg':mg (Str.ofString "law")=some (.ref fa):=hmg
 clear hd hcd hD hmg ho
 wrow_args hpre hlay hrd hwl hlo
 rename Well _ _ _ _=>hW
 rename Heap.IsList _ _ _=>hL
 rename IntsAre _ _=>hI
 rename (¬ (_:Int)<_)=>hlen
 rename (PyData.list _).layable0=true=>hbits
 have hk:(Mine.Base.mk Challenge.rw_uf040031_11.row.prog w s₁.heap mg mb true).OK:=⟨T.g,T.b,T.nolimit⟩
 have htop:Mine.TopAt (Mine.Base.mk Challenge.rw_uf040031_11.row.prog w s₁.heap mg mb true) Mine.vw (looseW Mine.vw []):=⟨hk,T.fn,T.const,T.free,T.builtins⟩
 obtain ⟨h0,hY1,hY2⟩:=(show ∃ h0,Mine.errChk0 h0=true/\∀ b o,h0.get? b=some o->s₁.heap.get? b=some o from Y)
 have he:=Mine.errs_of (k:=Mine.Base.mk Challenge.rw_uf040031_11.row.prog w s₁.heap mg mb true) hY1 hY2 T.g (htop.blt (by decide +kernel) (by decide) (by rfl))
 have hpg:Mine.L11 (Mine.Base.mk Challenge.rw_uf040031_11.row.prog w s₁.heap mg mb true):=Mine.pg_of rfl htop he TE
 refine Mine.law_head hk hW hL hI (by omega) hg ?_
 obtain ⟨f,hf,hcall⟩:=Mine.S_law (c:=⟨Mine.Base.mk Challenge.rw_uf040031_11.row.prog w s₁.heap mg mb true,[],[]⟩) (d:=77) (X:=Mine.NoX) hpg (by omega) (Mine.bits_of_layable hbits)
 have hf':mg (Str.ofString "law")=some f:=hf
 rw [hmg'] at hf';cases hf'
 exact hcall
end
