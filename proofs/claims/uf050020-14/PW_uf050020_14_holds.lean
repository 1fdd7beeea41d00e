import PyProof.Rows.All
import PyProof.Rows.SortShell
import PyProof.Rows.SortWalk
import KE.KIsAll
import PyProof.ExcAttrAll.ValueError
import PyProof.P3Statements
import PyProof.CompFree
import PyProof.RangeIter
import PyProof.StrWalks
import PyProof.TupleIter
import PyProof.WalksMore
import PyProof.Cells
import PyProof.DefCall
import PyProof.RaisesMany
import PyProof.StationsW
import PyProof.Rows.Own
import PyProof.DictStraight
import OpenK.KWalk
import PyProof.PureInt
import PyProof.StrOps
import PyProof.Rows.RuleB_sub
import PyProof.Rows.RuleB_mul
import PyProof.Rows.RuleB_mod
import PyProof.Rows.RuleB_small
import PyProof.Rows.RuleB_floordiv
import PyProof.Rows.RuleC_int
import PyProof.Rows.RuleC_bool
import PyProof.Rows.RuleIs2
import PyProof.Rows.Nodes
import PyProof.Rows.Chain
import PyProof.Rows.EqNone
import PyProof.LetGo
import PyProof.Rows.TupSub
import PyProof.Rows.Lst
import PyProof.SliceStr2
import PyProof.SliceMore
import PyProof.Ascii
import PyProof.IsInstance
import PyProof.IsInstanceH
import PyProof.IsiNone
import PyProof.IsiFacts
import PyProof.CallStr
import PyProof.Conv_int_bool
import PyProof.DictTruth
import PyProof.DictRoads
import PyProof.ListCopy
import PyProof.RangeFor
import PyProof.Rows.Range3
import PyProof.Rows.SeqMore
import PyProof.Rows.CountFlat
import PyProof.SeqI3
import PyProof.WalkInts
import PyProof.Rows.SeqJoint
import PyProof.StrCalls3
import PyProof.Rows.EqDataRows
import PyProof.Rows.InDataRows
import PyProof.StrLawsIn
import PyProof.FString5
import KE.KSortTup
import PyProof.Rows.SortStr
import PyProof.TupleKey
import PyProof.FactsAll.tuple_2
import PyProof.DictKinds
import PyProof.StrLaws
import KE.KIntText
import KE.KDictList
import KE.KDictSum
import PyProof.StrLawsChain
import PyProof.StrLawsTight
import PyProof.MeetsStr2
import PyProof.Rows.StrJoin2
import PyProof.Rows.SeqMore2
import PyProof.Rows.StrInSeq3
import PyProof.DictCalls
import KE.KPop
import PyProof.Rows.ExtendIn
import PyProof.Rows.AttrNodeAny
import PyProof.EvalArms
import PyProof.ListIndex
import PyProof.Raises
import PyProof.AssignAttr
import PyProof.ExcClass2
import PyProof.ExcBaseAll.ValueError
import OpenK.KCall
import PyProof.RulesTry
import PyProof.RulesAs
import PyProof.NsDelKeeps
import OpenK.AllK
import Wide.All
import Wide.FinOn
import PySem.Challenge.RW_uf050020_14
set_option linter.all false
set_option bootstrap.genMatcherCode false
set_option autoImplicit false
set_option genInjectivity false
set_option genSizeOf false
set_option genSizeOfSpec false
namespace Mine
noncomputable section
inductive LT where
 | v (i:Nat) | n (k:Nat) | a (x y:LT) | m (k:Nat) (x:LT)
noncomputable def LT.den (c:List Nat):LT→Nat
 | .v i=>c.getD i 0
 | .n k=>k
 | .a x y=>x.den c+y.den c
 | .m k x=>k*x.den c
noncomputable def mn:List Nat→List Nat→List Nat
 | []=>fun q=>q
 | x::p=>fun q=>(x+q.headD 0)::mn p q.tail
noncomputable def sB (k:Nat):List Nat→List Nat
 | []=>[]
 | x::p=>k*x::sB k p
noncomputable def zE:Nat→List Nat
 | 0=>[1]
 | n+1=>0::zE n
noncomputable def LT.pol:LT→List Nat
 | .v i=>zE (i+1)
 | .n k=>[k]
 | .a x y=>mn x.pol y.pol
 | .m k x=>sB k x.pol
noncomputable def pev (p:List Nat) (c:List Nat):Nat:=match p with
 | []=>0
 | x::p=>x*c.headD 0+pev p c.tail
noncomputable def ple:List Nat→List Nat→Bool
 | []=>fun _=>true
 | x::p=>fun q=>Nat.ble x (q.headD 0) && ple p q.tail
theorem cW: ∀ (p q c:List Nat),pev (mn p q) c=pev p c+pev q c
 | [],q,c=>(Nat.zero_add _).symm
 | x::p,[],c=>by
  show (x+0)*c.headD 0+pev (mn p []) c.tail=_
  rw [cW p [] c.tail]; rfl
 | x::p,y::q,c=>by
  show (x+y)*c.headD 0+pev (mn p q) c.tail=x*c.headD 0+pev p c.tail+(y*c.headD 0+pev q c.tail)
  rw [cW p q c.tail,Nat.add_mul,Nat.add_add_add_comm]
theorem fz (k:Nat): ∀ p c:List Nat,pev (sB k p) c=k*pev p c
 | [],c=>rfl
 | x::p,c=>by
  show k*x*c.headD 0+pev (sB k p) c.tail=k*(x*c.headD 0+pev p c.tail)
  rw [fz k p c.tail,Nat.mul_add,Nat.mul_assoc]
theorem nH: ∀ (i:Nat) (c:List Nat),pev (zE i) c=c.getD i 0
 | 0,c=>by
  show 1*c.headD 0+0=_
  rw [Nat.one_mul]; cases c<;>rfl
 | i+1,c=>by
  show 0*c.headD 0+pev (zE i) c.tail=_
  rw [Nat.zero_mul,Nat.zero_add,nH i c.tail]; cases c<;>rfl
theorem LT.sound (c:List Nat): ∀ t:LT,t.den c=pev t.pol (1::c)
 | .v i=>(nH (i+1) (1::c)).symm
 | .n k=>(Nat.mul_one k).symm
 | .a x y=>by rw [LT.pol,cW,← LT.sound c x,← LT.sound c y]; rfl
 | .m k x=>by rw [LT.pol,fz,← LT.sound c x]; rfl
theorem qJ: ∀ (p q c:List Nat),ple p q=true→pev p c≤pev q c
 | [],q,c,_=>Nat.zero_le _
 | x::p,[],c,h=>by
  obtain ⟨h1,h2⟩:=Bool.and_eq_true_iff.mp h
  have a:=qJ p [] c.tail h2
  have b:=Nat.eq_zero_of_le_zero (Nat.le_of_ble_eq_true h1)
  subst b
  show 0*_+_≤0
  rw [Nat.zero_mul,Nat.zero_add]; exact a
 | x::p,y::q,c,h=>by
  obtain ⟨h1,h2⟩:=Bool.and_eq_true_iff.mp h
  exact Nat.add_le_add (Nat.mul_le_mul_right _ (Nat.le_of_ble_eq_true h1)) (qJ p q c.tail h2)
noncomputable def lhs:List (Nat×LT×LT)→List Nat
 | []=>[]
 | h::r=>mn (sB h.1 h.2.1.pol) (lhs r)
noncomputable def rhs:List (Nat×LT×LT)→List Nat
 | []=>[]
 | h::r=>mn (sB h.1 h.2.2.pol) (rhs r)
noncomputable def tP (c:List Nat) (G:Prop):List (Nat×LT×LT)→Prop
 | []=>G
 | h::r=>h.2.1.den c≤h.2.2.den c→tP c G r
theorem nQ (c:List Nat) {G:Prop}: ∀ hs:List (Nat×LT×LT),(pev (lhs hs) (1::c)≤pev (rhs hs) (1::c)→G)→tP c G hs
 | [],k=>k (Nat.le_refl _)
 | h::r,k=>fun q=>nQ c r fun z=>k (by
  rw [lhs,rhs,cW,cW,fz,fz,← LT.sound,← LT.sound]
  exact Nat.add_le_add (Nat.mul_le_mul_left _ q) z)
theorem lin (c:List Nat) (hs:List (Nat×LT×LT)) (m:Nat) (l r:LT) (ok:ple (mn [1] (mn (sB m l.pol) (rhs hs))) (mn [m] (mn (sB m r.pol) (lhs hs)))=true):tP c (l.den c≤r.den c) hs:=
 nQ c hs fun h=>by
  have q:=qJ _ _ (1::c) ok
  rw [cW,cW,cW,cW,fz,fz,← LT.sound,← LT.sound] at q
  have q:1*1+0+(m*l.den c+pev (rhs hs) (1::c))≤m*1+0+(m*r.den c+pev (lhs hs) (1::c)):=q
  refine Nat.le_of_not_lt fun z=>?_
  have z':m*(r.den c+1)≤m*l.den c:=Nat.mul_le_mul_left m z
  rw [Nat.mul_add] at z'
  lia
noncomputable def trv:Nat→LT
 | 0=>.n 1
 | j+1=>.v j
noncomputable def tr:List Nat→LT
 | []=>.n 0
 | i::r=>r.foldl (fun a j=>.a a (trv j)) (trv i)
noncomputable def trp:List (List Nat×List Nat)→List (Nat×LT×LT)
 | []=>[]
 | h::r=>(1,tr h.1,tr h.2)::trp r
theorem li (c:List Nat) (hs:List (List Nat×List Nat)) (l r:List Nat) (ok:ple (mn [1] (mn (sB 1 (tr l).pol) (rhs (trp hs)))) (mn [1] (mn (sB 1 (tr r).pol) (lhs (trp hs))))=true):tP c ((tr l).den c≤(tr r).den c) (trp hs):=
 lin c (trp hs) 1 (tr l) (tr r) ok
theorem l_e {a b:Nat} (h:a=b):a≤b:=Nat.le_of_eq h
theorem l_s {a b:Nat} (h:a=b):b≤a:=Nat.le_of_eq h.symm
theorem l_n {a b:Nat} (h: ¬ a≤b):b+1≤a:=Nat.lt_of_not_le h
theorem l_t {a b:Nat} (h: ¬ a < b):b≤a:=Nat.le_of_not_lt h
theorem l_g (a b:Nat):a≤a - b+b:=Nat.le_add_of_sub_le (Nat.le_refl _)
theorem l_d {a b:Nat} (h:b≤a):a - b+b≤a:=Nat.le_of_eq (Nat.sub_add_cancel h)
theorem l_o {a b:Nat} (h:a≤b):a - b≤0:=Nat.le_of_eq (Nat.sub_eq_zero_of_le h)
theorem l_p {a b:Nat} (h:1≤a - b):a - b+b≤a:=l_d (Nat.le_of_lt (Nat.lt_of_sub_pos h))
theorem l_m {a b:Nat} (h:a≤b):a≤min a b:=Nat.le_min.mpr ⟨Nat.le_refl _,h⟩
theorem l_r {a b:Nat} (h:b≤a):b≤min a b:=Nat.le_min.mpr ⟨h,Nat.le_refl _⟩
theorem l_x {a b:Nat} (h:b≤a):max a b≤a:=Nat.max_le.mpr ⟨Nat.le_refl _,h⟩
theorem l_y {a b:Nat} (h:a≤b):max a b≤b:=Nat.max_le.mpr ⟨h,Nat.le_refl _⟩
theorem l_a {a b:Nat} (h:a≤b) (h':b≤a):a=b:=Nat.le_antisymm h h'
theorem l_z (h:1≤0):False:=Nat.not_succ_le_zero 0 h
end
noncomputable section
open PySem PyProof.Rows
noncomputable def kAt (κ:Keyed→Int) (xs:Array Keyed) (i:Nat):Int:=(xs[i]?).elim 0 κ
theorem aU {κ:Keyed→Int} {xs ys:Array Keyed} {i j:Nat} (h:xs[i]?= ys[j]?):kAt κ xs i=kAt κ ys j:=by unfold kAt; rw [h]
structure SB (kd:SortKind) (a₀:Array Keyed) (st:SortSt):Prop where
 perm:(arrOf st).Perm a₀
 kind:kindOf st=kd
 failed:failedOf st=none
noncomputable def Seg (κ:Keyed→Int) (xs:Array Keyed) (lo hi:Nat):Prop:=∀ i j,lo≤i→i≤j→j < hi→kAt κ xs i≤kAt κ xs j
noncomputable def iL (xs ys:Array Keyed) (lo:Nat):Prop:=∀ i,i < lo→ys[i]?= xs[i]?
theorem SB.size {kd:SortKind} {a₀:Array Keyed} {st:SortSt} (h:SB kd a₀ st):(arrOf st).size=a₀.size:=h.perm.size_eq
theorem SB.setArr {kd:SortKind} {a₀:Array Keyed} {st:SortSt} (h:SB kd a₀ st) {xs:Array Keyed} (hp:xs.Perm (arrOf st)):SB kd a₀ (setArr st xs):=
 ⟨hp.trans h.perm,h.kind,h.failed⟩
theorem SB.at {kd:SortKind} {a₀:Array Keyed} {st:SortSt} (h:SB kd a₀ st) {i:Nat} (hi:i < a₀.size): ∃ p,(arrOf st)[i]?= some p∧p∈a₀.toList:=by
 have hi':i < (arrOf st).size:=by rw [h.size]; exact hi
 exact ⟨(arrOf st)[i],getElem?_pos _ i hi',(Array.perm_iff_toList_perm.mp h.perm).mem_iff.mp (by simp)⟩
section
variable {prog:Program} {w:World} {A:Around} {E:Value→Shared→Prop} {s:Shared} {kd:SortKind} {κ:Keyed→Int} {a₀:Array Keyed}
noncomputable def pQ (prog:Program) (w:World) (A:Around) (E:Value→Shared→Prop) (s:Shared) (kd:SortKind) (κ:Keyed→Int) (a₀:Array Keyed):Prop:=
 ∀ x y,x∈a₀.toList→y∈a₀.toList→∀ (st:SortSt) (Q:Option Bool→SortSt→Prop),kindOf st=kd→Q (some (decide (κ x < κ y))) st→wpS (model prog w) A E s (lt' x y) Q st
theorem gk {xs:Array Keyed} {i:Nat} {p:Keyed} {st:SortSt} {Q:Keyed→SortSt→Prop} (e:xs[i]?= some p) (h:Q p st):wpS (model prog w) A E s (elem' xs i) Q st:=by
 rw [elem'_eq,e]; exact wpS_pure h
theorem gN {st:SortSt} {i j:Nat} {Q:Option Bool→SortSt→Prop} (hL:pQ prog w A E s kd κ a₀) (hB:SB kd a₀ st) (hi:i < a₀.size) (hj:j < a₀.size)
  (h:Q (some (decide (kAt κ (arrOf st) i < kAt κ (arrOf st) j))) st):wpS (model prog w) A E s (ltAt' i j) Q st:=by
 obtain ⟨p,e1,m1⟩:=hB.at hi
 obtain ⟨q,e2,m2⟩:=hB.at hj
 rw [ltAt'_eq]
 refine wpS_bind (wpS_get ?_)
 refine wpS_bind (gk e1 (wpS_bind (gk e2 (hL p q m1 m2 st Q hB.kind ?_))))
 simpa only [kAt,e1,e2,Option.elim_some] using h
theorem nU {xs:Array Keyed} {src d:Nat} (hs:src < xs.size) (hd:d≤src) (k:Nat):
  kAt κ (bubble xs src d) k=if k=src - d then kAt κ xs src else if src - d < k∧k≤src then kAt κ xs (k - 1) else kAt κ xs k:=by
 have e:=getElem?_bubble hs d hd k
 by_cases h1:k=src - d
 ·rw [if_pos h1] at e ⊢; exact aU e
 ·rw [if_neg h1] at e ⊢
  by_cases h2:src - d < k∧k≤src
  ·rw [if_pos h2] at e ⊢; exact aU e
  ·rw [if_neg h2] at e ⊢; exact aU e
theorem jU {xs:Array Keyed} {i j:Nat} (hj:j≤xs.size) (k:Nat):
  kAt κ (mirror xs i j ((j - i) / 2)) k=if i≤k∧k < j then kAt κ xs (i+j - 1 - k) else kAt κ xs k:=by
 have e:=getElem?_mirror_all (i:=i) hj k
 by_cases h1:i≤k∧k < j
 ·rw [if_pos h1] at e ⊢; exact aU e
 ·rw [if_neg h1] at e ⊢; exact aU e
theorem bV {xs:Array Keyed} {i j:Nat} (hj:j≤xs.size) (heq: ∀ k,i≤k→k < j→kAt κ xs k=kAt κ xs (j - 1)) (k:Nat):
  kAt κ (mirror xs i j ((j - i) / 2)) k=kAt κ xs k:=by
 rw [jU hj]
 by_cases z:i≤k∧k < j
 ·rw [if_pos z,heq _ (by exact li [i,_,k,j,_] [([3,0],[4]),([1,4],[5,0]),([5],[2,3])] [1] [2] rfl z.2 (l_g _ _) (l_g _ _)) (by exact li [_,j,i,k,_] [([3],[4]),([5,0],[3,2]),([1,4],[5])] [1,0] [2] rfl z.1 (l_d (li [i,j,k] [([3,0],[2])] [0] [1,2] rfl z.2)) (l_d (li [k,_,j,i] [([1,0],[3]),([4,3],[2,0])] [1] [2] rfl z.2 (l_g _ _)))),heq k z.1 z.2]
 ·rw [if_neg z]
theorem bg {xs:Array Keyed} {i j lo:Nat} (hj:j≤xs.size) (hlo:lo≤i):iL xs (mirror xs i j ((j - i) / 2)) lo:=fun k hk=>by
 rw [getElem?_mirror_all hj k,if_neg (by exact fun q=>l_z (lin [lo,i,k] [(1,.v 0,.v 1),(1,.a (.v 2) (.n 1),.v 0),(1,.v 1,.v 2)] 0 (.n 1) (.n 0) rfl hlo hk q.1))]
theorem fR {l r:Nat} (h: ¬ l ≥ r):l≤(l+r) / 2∧(l+r) / 2+1≤r:=
 ⟨(Nat.le_div_iff_mul_le (by decide)).mpr (by rw [Nat.mul_two]; exact Nat.add_le_add_left (Nat.le_of_not_le h) l),Nat.div_lt_of_lt_mul (by rw [Nat.two_mul]; exact Nat.add_lt_add_right (Nat.lt_of_not_le h) r)⟩
theorem ud {l m r k x:Nat} (h1:l≤m) (h2:m+1≤r) (hm:r - l≤k - x):m - l≤k - (x+1):=by
 have:m - l+1≤r - l:=by rw [← Nat.sub_add_comm h1]; exact Nat.sub_le_sub_right h2 l
 exact (Nat.le_sub_of_add_le (Nat.le_trans this hm):m - l≤k - x - 1)
theorem ue {l m r k x:Nat} (h1:l≤m) (hm:r - l≤k - x):r - (m+1)≤k - (x+1):=Nat.sub_le_sub_right (Nat.le_trans (Nat.sub_le_sub_left h1 r) hm) 1
theorem ug {p q k:Nat} {a b c:Int} (h:k < p):(if k=p then a else if p < k∧k≤q then b else c)=c:=by rw [if_neg (Nat.ne_of_lt h),if_neg fun z=>Nat.lt_asymm h z.1]
theorem nW {p q k:Nat} {a b c:Int} (h:p < k) (h':k≤q):(if k=p then a else if p < k∧k≤q then b else c)=b:=by rw [if_neg (Nat.ne_of_gt h),if_pos ⟨h,h'⟩]
theorem ze {f:Nat→Int} {lo p q i j:Nat} (hs: ∀ i j,lo≤i→i≤j→j < q→f i≤f j) (hl: ∀ i,lo≤i→i < p→f i≤f q) (hh: ∀ i,p≤i→i < q→f q < f i) (hlp:lo≤p) (hpq:p≤q) (h1:lo≤i) (h2:i≤j) (h3:j < q+1):
  (if i=p then f q else if p < i∧i≤q then f (i - 1) else f i)≤(if j=p then f q else if p < j∧j≤q then f (j - 1) else f j):=by
 have jq:j≤q:=Nat.le_of_lt_succ h3
 rcases Nat.lt_trichotomy i p with a | a | a
 ·rw [ug a]
  rcases Nat.lt_trichotomy j p with b | b | b
  ·rw [ug b]; exact hs i j h1 h2 (Nat.lt_of_lt_of_le b hpq)
  ·rw [if_pos b]; exact hl i h1 a
  ·rw [nW b jq]; exact hs i (j - 1) h1 (Nat.le_sub_one_of_lt (Nat.lt_trans a b)) (Nat.lt_of_lt_of_le (Nat.sub_one_lt_of_lt b) jq)
 ·rw [if_pos a]
  rcases Nat.eq_or_lt_of_le (a▸h2:p≤j) with b | b
  ·rw [if_pos b.symm]; exact Int.le_refl _
  ·rw [nW b jq]; exact Int.le_of_lt (hh (j - 1) (Nat.le_sub_one_of_lt b) (Nat.lt_of_lt_of_le (Nat.sub_one_lt_of_lt b) jq))
 ·have b:p < j:=Nat.lt_of_lt_of_le a h2
  rw [nW a (Nat.le_trans h2 jq),nW b jq]
  exact hs (i - 1) (j - 1) (Nat.le_trans hlp (Nat.le_sub_one_of_lt a)) (Nat.sub_le_sub_right h2 1) (Nat.lt_of_lt_of_le (Nat.sub_one_lt_of_lt b) jq)
theorem lN {st:SortSt} {lo n ok:Nat} {Q:Bool→SortSt→Prop} (hL:pQ prog w A E s kd κ a₀) (hn:lo+n≤a₀.size) (hok:ok≤n) (hB:SB kd a₀ st) (hs:Seg κ (arrOf st) lo (lo+ok))
  (h: ∀ st',SB kd a₀ st'→pendingOf st'=pendingOf st→Seg κ (arrOf st') lo (lo+n)→iL (arrOf st) (arrOf st') lo→Q true st'):wpS (model prog w) A E s (binarySort' lo n ok) Q st:=by
 rw [binarySort'_eq]
 refine wpS_bind (wpS_mono (wpS_forRange (I:=fun k c st'=>c=(none,())∧SB kd a₀ st'∧pendingOf st'=pendingOf st∧iL (arrOf st) (arrOf st') lo∧Seg κ (arrOf st') lo (lo+min k n))
  (Q:=fun c st'=>c=(none,())∧SB kd a₀ st'∧pendingOf st'=pendingOf st∧iL (arrOf st) (arrOf st') lo∧Seg κ (arrOf st') lo (lo+n)) ?step ?fin ?init) ?post)
 case post=>
  rintro c st' ⟨rfl,hB',hp,ha,hs'⟩
  exact wpS_pure (h st' hB' hp hs' ha)
 case init=>
  refine ⟨rfl,hB,rfl,fun _ _=>rfl,fun i j hl hij hj=>?_⟩
  by_cases h1:ok=0
  ·have:i=j:=by exact l_a (hij) (li [j,i,lo,_,_] [([3],[2]),([1,0],[3,4]),([5],[0]),([4],[5])] [1] [2] rfl hl hj (l_y (li [ok] [([1],[])] [1] [0] rfl (l_e h1))) (Nat.min_le_left _ _))
   subst this; exact Int.le_refl _
  ·exact hs i j hl hij (by exact li [j,lo,ok,_,_] [([1,0],[2,4]),([5],[3]),([4],[5])] [1,0] [2,3] rfl hj (l_x (lin [ok] [(1,.a (.n 0) (.n 1),.v 0)] 1 (.n 1) (.v 0) rfl (Nat.lt_of_le_of_ne (li [ok] [] [] [1] rfl ) (Ne.symm h1)))) (Nat.min_le_left _ _))
 case fin=>
  rintro c st' ⟨hc,hB',hp,ha,hs'⟩
  refine ⟨hc,hB',hp,ha,?_⟩
  rwa [show min (max (max ok 1) n) n=n by exact Nat.min_eq_right ((Nat.le_max_right _ _))] at hs'
 case step=>
  rintro k c st' hak hkn ⟨rfl,hB',hp,ha,hs'⟩
  rw [show min k n=k by exact Nat.min_eq_left (li [k,n] [([1,0],[2])] [1] [2] rfl hkn)] at hs'
  have hk:lo+k < a₀.size:=by exact li [lo,k,_,n] [([1,4],[3]),([2,0],[4])] [1,2,0] [3] rfl hn hkn
  refine wpS_bind (wpS_mono (wpS_forRange (I:=fun x c st''=>st''=st'∧∃ l r,c=(none,l,r)∧l≤r∧r≤k∧r - l≤k - x∧
    (∀ i,i < l→kAt κ (arrOf st') (lo+i)≤kAt κ (arrOf st') (lo+k))∧(∀ i,r≤i→i < k→kAt κ (arrOf st') (lo+k) < kAt κ (arrOf st') (lo+i)))
   (Q:=fun c st''=>st''=st'∧∃ l r,c=(none,l,r)∧l≤k∧
    (∀ i,i < l→kAt κ (arrOf st') (lo+i)≤kAt κ (arrOf st') (lo+k))∧(∀ i,l≤i→i < k→kAt κ (arrOf st') (lo+k) < kAt κ (arrOf st') (lo+i))) ?istep ?ifin ?iinit) ?ipost)
  case iinit=>exact ⟨rfl,0,k,rfl,by exact li [k] [] [] [1] rfl,by exact li [k] [] [1] [1] rfl,by exact li [_] [] [1] [1] rfl,fun i hi=>by exact (l_z (lin [i] [(1,.a (.v 0) (.n 1),.n 0)] 0 (.n 1) (.n 0) rfl hi)).elim,fun i h1 h2=>by exact (l_z (lin [k,i] [(1,.v 0,.v 1),(1,.a (.v 1) (.n 1),.v 0)] 0 (.n 1) (.n 0) rfl h1 h2)).elim⟩
  case ifin=>
   rintro c st'' ⟨rfl,l,r,rfl,hlr,hrk,hm,hlo,hhi⟩
   have:l=r:=by exact l_a (hlr) (li [r,l,_,_,k,_] [([3],[4]),([1],[3,2]),([5],[6]),([4,6],[5])] [1] [2] rfl hm (l_g _ _) (Nat.le_max_right _ _) (l_d ((l_y (li [k] [] [] [1] rfl )))))
   subst this
   exact ⟨rfl,l,l,rfl,hrk,hlo,hhi⟩
  case istep=>
   rintro x c st'' _ hxk ⟨rfl,l,r,rfl,hlr,hrk,hm,hlo,hhi⟩
   dsimp only
   by_cases hge:l ≥ r
   ·rw [if_pos hge]
    have:l=r:=by exact l_a (hlr) (hge)
    subst this
    exact wpS_pure ⟨rfl,l,l,rfl,hrk,hlo,hhi⟩
   ·rw [if_neg hge]
    refine wpS_bind (gN hL hB' hk (Nat.lt_trans (Nat.add_lt_add_left (Nat.lt_of_lt_of_le (fR hge).2 hrk) lo) hk) ?_)
    by_cases hless:kAt κ (arrOf st'') (lo+k) < kAt κ (arrOf st'') (lo+(l+r) / 2)
    ·simp only [hless,decide_true,if_true]
     refine wpS_pure ⟨rfl,l,(l+r) / 2,rfl,(fR hge).1,Nat.le_trans (Nat.le_of_succ_le (fR hge).2) hrk,ud (fR hge).1 (fR hge).2 hm,hlo,fun i h1 h2=>?_⟩
     exact Int.lt_of_lt_of_le hless (hs' _ _ (by exact li [lo,_] [] [1] [1,2] rfl) (by exact li [lo,_,i] [([2],[3])] [1,2] [1,3] rfl h1) (by exact li [lo,i,k] [([2,0],[3])] [1,2,0] [1,3] rfl h2))
    ·simp only [hless,decide_false,Bool.false_eq_true,if_false]
     refine wpS_pure ⟨rfl,(l+r) / 2+1,r,rfl,(fR hge).2,hrk,ue (fR hge).1 hm,fun i h1=>?_,hhi⟩
     exact Int.le_trans (hs' (lo+i) (lo+(l+r) / 2) (Nat.le_add_right _ _) (Nat.add_le_add_left (Nat.le_of_lt_succ h1) lo) (Nat.add_lt_add_left (Nat.lt_of_lt_of_le (fR hge).2 hrk) lo)) (Int.not_lt.mp hless)
  case ipost=>
   rintro c st'' ⟨rfl,l,r,rfl,hlk,hlo,hhi⟩
   show wpS _ _ _ _ (do moveDown' (lo+k) (lo+l); pure (ForInStep.yield (none,()))) _ _
   rw [moveDown'_eq]
   have hks:lo+k < (arrOf st'').size:=by rw [hB'.size]; exact hk
   have hd:lo+k - (lo+k - (lo+l))=lo+l:=by exact l_a (lin [_,lo,l,k,_] [(1,.a (.v 1) (.v 3),.a (.v 4) (.a (.v 1) (.v 2))),(1,.a (.v 0) (.v 4),.a (.v 1) (.v 3))] 1 (.v 0) (.a (.v 1) (.v 2)) rfl (l_g _ _) (l_d (lin [_,lo,k,l] [(1,.a (.v 0) (.a (.v 1) (.v 3)),.a (.v 1) (.v 2))] 1 (.v 0) (.a (.v 1) (.v 2)) rfl (l_d (li [lo,l,k] [([2],[3])] [1,2] [1,3] rfl hlk))))) (lin [lo,l,_,_,k] [(1,.a (.v 3) (.a (.v 0) (.v 1)),.a (.v 0) (.v 4)),(1,.a (.v 0) (.v 4),.a (.v 2) (.v 3))] 1 (.a (.v 0) (.v 1)) (.v 2) rfl (l_d (li [lo,l,k] [([2],[3])] [1,2] [1,3] rfl hlk)) (l_g _ _))
   refine wpS_bind (wpS_modify (wpS_pure ⟨rfl,hB'.setArr (bubble_perm _ _ _),hp,fun i hi=>?_,?_⟩))
   ·show (bubble (arrOf st'') (lo+k) (lo+k - (lo+l)))[i]?= _
    rw [getElem?_bubble hks _ (by exact li [_,lo,k,_] [([4,1],[2,3])] [1] [2,3] rfl (l_p (li [_,lo,l,i] [([2,3],[1]),([4,0],[2])] [0] [1] rfl (l_s hd) hi))) i,if_neg (by exact fun q=>l_z (lin [lo,l,_,i] [(1,.a (.v 0) (.v 1),.v 2),(1,.a (.v 3) (.n 1),.v 0),(1,.v 2,.v 3)] 0 (.n 1) (.n 0) rfl (l_s hd) hi (l_s q))),if_neg (by exact fun q=>l_z (lin [lo,l,_,i] [(1,.a (.v 0) (.v 1),.v 2),(1,.a (.v 3) (.n 1),.v 0),(1,.a (.v 2) (.n 1),.v 3)] 0 (.n 1) (.n 0) rfl (l_s hd) hi q.1))]
    exact ha i hi
   ·rw [show min (k+1) n=k+1 by exact Nat.min_eq_left (hkn)]
    intro i j hli hij hj
    show kAt κ (bubble (arrOf st'') (lo+k) (lo+k - (lo+l))) i≤kAt κ (bubble (arrOf st'') (lo+k) (lo+k - (lo+l))) j
    rw [nU hks (by exact li [_,lo,k,_] [([4,1],[2,3])] [1] [2,3] rfl (l_d (lin [_,lo,k,l] [(1,.a (.v 0) (.a (.v 1) (.v 3)),.a (.v 1) (.v 2))] 1 (.v 0) (.a (.v 1) (.v 2)) rfl (l_d (li [lo,l,k] [([2],[3])] [1,2] [1,3] rfl hlk))))),nU hks (by exact li [_,lo,k,_] [([4,1],[2,3])] [1] [2,3] rfl (l_d (lin [_,lo,k,l] [(1,.a (.v 0) (.a (.v 1) (.v 3)),.a (.v 1) (.v 2))] 1 (.v 0) (.a (.v 1) (.v 2)) rfl (l_d (li [lo,l,k] [([2],[3])] [1,2] [1,3] rfl hlk))))),hd]
    have hlo': ∀ i,lo≤i→i < lo+l→kAt κ (arrOf st'') i≤kAt κ (arrOf st'') (lo+k):=fun i h1 h2=>by
     have:=hlo (i - lo) (by exact li [_,l,i,lo] [([3,0],[4,2]),([1,4],[3])] [1,0] [2] rfl h2 (l_d (h1))); rwa [show lo+(i - lo)=i by exact l_a (li [lo,_,i] [([2,1],[3])] [1,2] [3] rfl (l_d (h1))) (li [i,lo,_] [([1],[3,2])] [1] [2,3] rfl (l_g _ _))] at this
    have hhi': ∀ i,lo+l≤i→i < lo+k→kAt κ (arrOf st'') (lo+k) < kAt κ (arrOf st'') i:=fun i h1 h2=>by
     have:=hhi (i - lo) (by exact li [l,_,lo,i] [([3,1],[4]),([4],[2,3])] [1] [2] rfl h1 (l_g _ _)) (by exact li [_,k,i,lo] [([3,0],[4,2]),([1,4],[3])] [1,0] [2] rfl h2 (l_d (li [lo,i,l] [([1,3],[2])] [1] [2] rfl h1))); rwa [show lo+(i - lo)=i by exact l_a (li [lo,_,i] [([2,1],[3])] [1,2] [3] rfl (l_d (li [lo,i,l] [([1,3],[2])] [1] [2] rfl h1))) (li [i,lo,_] [([1],[3,2])] [1] [2,3] rfl (l_g _ _))] at this
    exact ze hs' hlo' hhi' (Nat.le_add_right _ _) (Nat.add_le_add_left hlk lo) hli hij hj
end
end
noncomputable section
open PySem PyProof.Rows
noncomputable def pR (κ:Keyed→Int) (xs:Array Keyed) (lo hi:Nat):Prop:=∀ i j,lo≤i→i≤j→j < hi→kAt κ xs j≤kAt κ xs i
section
variable {prog:Program} {w:World} {A:Around} {E:Value→Shared→Prop} {s:Shared} {kd:SortKind} {κ:Keyed→Int} {a₀:Array Keyed}
theorem Seg.more {xs:Array Keyed} {lo x:Nat} (h:Seg κ xs lo x) (hl:lo < x) (hx: ¬ kAt κ xs x < kAt κ xs (x - 1)):Seg κ xs lo (x+1):=fun i j hi hij hj=>by
 by_cases hjx:j < x
 ·exact h i j hi hij hjx
 ·obtain rfl:j=x:=by exact l_a (li [j,x] [([1,0],[2,0])] [1] [2] rfl hj) ((l_t hjx))
  by_cases hi':i=j
  ·subst hi'; exact Int.le_refl _
  ·exact Int.le_trans (h i (j - 1) hi (by exact li [i,j - 1,j] [([1,0],[3]),([3],[2,0])] [1] [2] rfl (Nat.lt_of_le_of_ne (hij) hi') (l_g (j) (1))) (by exact (l_d (li [j,lo] [([2,0],[1])] [0] [1] rfl hl)))) (Int.not_lt.mp hx)
theorem pR.more {xs:Array Keyed} {lo x:Nat} (h:pR κ xs lo x) (hl:lo < x) (hx:kAt κ xs x≤kAt κ xs (x - 1)):pR κ xs lo (x+1):=fun i j hi hij hj=>by
 by_cases hjx:j < x
 ·exact h i j hi hij hjx
 ·obtain rfl:j=x:=by exact l_a (li [j,x] [([1,0],[2,0])] [1] [2] rfl hj) ((l_t hjx))
  by_cases hi':i=j
  ·subst hi'; exact Int.le_refl _
  ·exact Int.le_trans hx (h i (j - 1) hi (by exact li [i,j - 1,j] [([1,0],[3]),([3],[2,0])] [1] [2] rfl (Nat.lt_of_le_of_ne (hij) hi') (l_g (j) (1))) (by exact (l_d (li [j,lo] [([2,0],[1])] [0] [1] rfl hl))))
theorem pR.same {xs ys:Array Keyed} {lo x:Nat} (h:pR κ xs lo x) (e: ∀ k,kAt κ ys k=kAt κ xs k):pR κ ys lo x:=fun i j a b c=>by rw [e,e]; exact h i j a b c
theorem iL.trans {xs ys zs:Array Keyed} {lo:Nat} (h:iL xs ys lo) (h':iL ys zs lo):iL xs zs lo:=fun i hi=>(h' i hi).trans (h i hi)
theorem gO {st:SortSt} {lo a nrem:Nat} {β:Type} {g:Nat→β} {bad:Nat→β} {f:Nat→β→StateT SortSt Sem (ForInStep β)} {Q:β→SortSt→Prop} (hL:pQ prog w A E s kd κ a₀) (hn:lo+nrem≤a₀.size) (ha:1≤a) (han:a≤nrem) (hB:SB kd a₀ st)
  (hf: ∀ i x,f i (g x)=(do
   let __x ← ltAt' (lo+x) (lo+x - 1)
   match __x with
   | some smaller=>if smaller=true then pure (ForInStep.done (g x)) else pure (ForInStep.yield (g (x+1)))
   | _=>pure (ForInStep.done (bad x))))
  (hs:Seg κ (arrOf st) lo (lo+a))
  (h: ∀ n,a≤n→n≤nrem→Seg κ (arrOf st) lo (lo+n)→(n=nrem∨kAt κ (arrOf st) (lo+n) < kAt κ (arrOf st) (lo+n - 1))→Q (g n) st):
  wpS (model prog w) A E s (forIn [a:nrem] (g a) f) Q st:=by
 refine wpS_forRange (I:=fun x c st'=>st'=st∧c=g x∧Seg κ (arrOf st) lo (lo+x)) ?step ?fin ⟨rfl,rfl,hs⟩
 case fin=>
  rintro c st' ⟨rfl,rfl,hs'⟩
  rw [show max a nrem=nrem by exact Nat.max_eq_right (han)] at hs' ⊢
  exact h nrem han (Nat.le_refl _) hs' (.inl rfl)
 case step=>
  rintro x c st' hax hxn ⟨rfl,rfl,hs'⟩
  rw [hf]
  refine wpS_bind (gN hL hB (by exact li [lo,x,a₀.size,nrem] [([1,4],[3]),([2,0],[4])] [1,2,0] [3] rfl hn hxn) (by exact li [lo+x - 1,a₀.size,lo,nrem,x] [([3,4],[2]),([5,0],[4]),([1,0],[3,5])] [1,0] [2] rfl hn hxn (l_d (li [lo,x,a] [([0],[3]),([3],[2])] [0] [1,2] rfl ha hax))) ?_)
  by_cases hless:kAt κ (arrOf st') (lo+x) < kAt κ (arrOf st') (lo+x - 1)
  ·simp only [hless,decide_true,if_true]
   exact wpS_pure (h x hax (by exact li [x,nrem] [([1,0],[2])] [1] [2] rfl hxn) hs' (.inr hless))
  ·simp only [hless,decide_false,Bool.false_eq_true,if_false]
   exact wpS_pure ⟨rfl,rfl,hs'.more (by exact li [lo,x,a] [([0],[3]),([3],[2])] [1,0] [1,2] rfl ha hax) hless⟩
theorem mX {st:SortSt} {lo n nrem:Nat} {β:Type} {g:Nat→Nat→β} {bad:Nat→Nat→β} {f:Nat→β→StateT SortSt Sem (ForInStep β)} {Q:β→SortSt→Prop} (hL:pQ prog w A E s kd κ a₀) (hn:lo+nrem≤a₀.size) (h1:1≤n) (hnn:n≤nrem) (hB:SB kd a₀ st)
  (hf: ∀ i x q,f i (g x q)=(do
   let __x ← ltAt' (lo+x) (lo+x - 1)
   match __x with
   | some smaller=>
    if smaller=true then
     if q > 0 then do
      reverseSlice' (lo+x - (q+1)) (lo+x)
      pure (ForInStep.yield (g (x+1) 0))
     else pure (ForInStep.yield (g (x+1) 0))
    else do
     let __x ← ltAt' (lo+x - 1) (lo+x)
     match __x with
     | some larger=>if larger=true then pure (ForInStep.done (g x q)) else pure (ForInStep.yield (g (x+1) (q+1)))
     | _=>pure (ForInStep.done (bad x q))
   | _=>pure (ForInStep.done (bad x q))))
  (hs:pR κ (arrOf st) lo (lo+n))
  (h: ∀ m q st',SB kd a₀ st'→pendingOf st'=pendingOf st→iL (arrOf st) (arrOf st') lo→n≤m→m≤nrem→pR κ (arrOf st') lo (lo+m)→q+1≤m→(∀ i,lo+m - (q+1)≤i→i < lo+m→kAt κ (arrOf st') i=kAt κ (arrOf st') (lo+m - 1))→Q (g m q) st'):
  wpS (model prog w) A E s (forIn [n:nrem] (g n 0) f) Q st:=by
 refine wpS_forRange (I:=fun x c st'=>∃ q,c=g x q∧SB kd a₀ st'∧pendingOf st'=pendingOf st∧iL (arrOf st) (arrOf st') lo∧pR κ (arrOf st') lo (lo+x)∧q+1≤x∧
   (∀ i,lo+x - (q+1)≤i→i < lo+x→kAt κ (arrOf st') i=kAt κ (arrOf st') (lo+x - 1))) ?step ?fin ⟨0,rfl,hB,rfl,fun _ _=>rfl,hs,by exact lin [n] [(1,.n 1,.v 0)] 1 (.a (.n 0) (.n 1)) (.v 0) rfl h1,fun i h1 h2=>by congr 1; exact l_a (lin [i,lo+n - (0+1),lo,n] [(1,.a (.v 0) (.n 1),.a (.v 2) (.v 3)),(1,.a (.v 2) (.v 3),.a (.v 1) (.a (.n 0) (.n 1)))] 1 (.v 0) (.v 1) rfl h2 (l_g (lo+n) (0+1))) (h1)⟩
 case fin=>
  rintro c st' ⟨q,rfl,hB',hp,ha,hs',hq,he⟩
  rw [show max n nrem=nrem by exact Nat.max_eq_right (hnn)] at hs' hq he ⊢
  exact h nrem q st' hB' hp ha hnn (Nat.le_refl _) hs' hq he
 case step=>
  rintro x c st' hax hxn ⟨q,rfl,hB',hp,ha,hs',hq,he⟩
  have hsz:lo+x≤(arrOf st').size:=by rw [hB'.size]; exact li [lo,x,a₀.size,nrem] [([1,4],[3]),([2,0],[4])] [1,2] [3] rfl hn hxn
  have hone: ∀ (xs:Array Keyed) (i:Nat),lo+(x+1) - (0+1)≤i→i < lo+(x+1)→kAt κ xs i=kAt κ xs (lo+(x+1) - 1):=fun xs i h1 h2=>by congr 1; exact l_a (lin [i,lo+(x+1) - (0+1),lo,x] [(1,.a (.v 0) (.n 1),.a (.v 2) (.a (.v 3) (.n 1))),(1,.a (.v 2) (.a (.v 3) (.n 1)),.a (.v 1) (.a (.n 0) (.n 1)))] 1 (.v 0) (.v 1) rfl h2 (l_g (lo+(x+1)) (0+1))) (h1)
  rw [hf]
  refine wpS_bind (gN hL hB' (by exact li [lo,x,a₀.size,nrem] [([1,4],[3]),([2,0],[4])] [1,2,0] [3] rfl hn hxn) (by exact li [lo+x - 1,a₀.size,lo,nrem,x] [([3,4],[2]),([5,0],[4]),([1,0],[3,5])] [1,0] [2] rfl hn hxn (l_d (li [lo,x,q] [([3,0],[2])] [0] [1,2] rfl hq))) ?_)
  by_cases hless:kAt κ (arrOf st') (lo+x) < kAt κ (arrOf st') (lo+x - 1)
  ·simp only [hless,decide_true,if_true]
   have hd:=hs'.more (by exact li [lo,x,q] [([3,0],[2])] [1,0] [1,2] rfl hq) (Int.le_of_lt hless)
   by_cases hq0:q > 0
   ·rw [if_pos hq0]
    exact wpS_bind (wpS_reverse (wpS_pure ⟨0,rfl,hB'.setArr (mirror_perm _ _ _ _),hp,ha.trans (bg hsz (by exact li [lo,lo+x - (q+1),q,x] [([3,0],[4]),([1,4],[2,3,0])] [1] [2] rfl hq (l_g (lo+x) (q+1)))),hd.same (bV hsz he),by exact lin [x] [] 1 (.a (.n 0) (.n 1)) (.a (.v 0) (.n 1)) rfl,hone _⟩))
   ·rw [if_neg hq0]
    exact wpS_pure ⟨0,rfl,hB',hp,ha,hd,by exact lin [x] [] 1 (.a (.n 0) (.n 1)) (.a (.v 0) (.n 1)) rfl,hone _⟩
  ·simp only [hless,decide_false,Bool.false_eq_true,if_false]
   refine wpS_bind (gN hL hB' (by exact li [lo+x - 1,a₀.size,lo,nrem,x] [([3,4],[2]),([5,0],[4]),([1,0],[3,5])] [1,0] [2] rfl hn hxn (l_d (li [lo,x,q] [([3,0],[2])] [0] [1,2] rfl hq))) (by exact li [lo,x,a₀.size,nrem] [([1,4],[3]),([2,0],[4])] [1,2,0] [3] rfl hn hxn) ?_)
   by_cases hlarger:kAt κ (arrOf st') (lo+x - 1) < kAt κ (arrOf st') (lo+x)
   ·simp only [hlarger,decide_true,if_true]
    exact wpS_pure (h x q st' hB' hp ha hax (by exact li [x,nrem] [([1,0],[2])] [1] [2] rfl hxn) hs' hq he)
   ·simp only [hlarger,decide_false,Bool.false_eq_true,if_false]
    have heqx:kAt κ (arrOf st') (lo+x)=kAt κ (arrOf st') (lo+x - 1):=by exact Int.le_antisymm (Int.not_lt.mp hlarger) (Int.not_lt.mp hless)
    refine wpS_pure ⟨q+1,rfl,hB',hp,ha,hs'.more (by exact li [lo,x,q] [([3,0],[2])] [1,0] [1,2] rfl hq) (by exact (Int.not_lt.mp hlarger)),by exact li [q,x] [([1,0],[2])] [1,0,0] [2,0] rfl hq,fun i h1 h2=>?_⟩
    rw [show lo+(x+1) - 1=lo+x by exact l_a (li [lo+(x+1) - 1,lo,x] [([1,0],[2,3,0])] [1] [2,3] rfl (l_d (li [lo,x] [] [0] [1,2,0] rfl ))) (li [lo,x,lo+(x+1) - 1] [([1,2,0],[3,0])] [1,2] [3] rfl (l_g (lo+(x+1)) (1)))]
    by_cases hix:i=lo+x
    ·subst hix; rfl
    ·rw [heqx]; exact he i (by exact li [lo+x - (q+1),i,lo+(x+1) - (q+1+1),lo,x,q] [([3],[2]),([4,5,0],[3,6,0,0]),([1,6,0],[4,5])] [1] [2] rfl h1 (l_g (lo+(x+1)) (q+1+1)) (l_d (li [q,lo,x,lo+(x+1) - (q+1+1)] [([4,1,0,0],[2,3,0])] [1,0] [2,3] rfl (l_d (li [q,lo,x] [([1,0],[3])] [1,0,0] [2,3,0] rfl hq))))) (by exact (Nat.lt_of_le_of_ne (li [i,lo,x] [([1,0],[2,3,0])] [1] [2,3] rfl h2) hix))
theorem pR.turn {xs:Array Keyed} {lo m:Nat} (hsz:lo+m≤xs.size) (h:pR κ xs lo (lo+m)):Seg κ (mirror xs lo (lo+m) ((lo+m - lo) / 2)) lo (lo+m):=fun i j hi hij hj=>by
 rw [jU hsz,jU hsz,if_pos (by exact ⟨hi,li [i,lo,m,j] [([1],[4]),([4,0],[2,3])] [1,0] [2,3] rfl hij hj⟩),if_pos (by exact ⟨li [lo,j,i] [([1],[3]),([3],[2])] [1] [2] rfl hi hij,hj⟩)]
 exact h _ _ (by exact lin [lo,lo+(lo+m) - 1 - j,j,m,lo+(lo+m) - 1] [(1,.a (.v 2) (.n 1),.a (.v 0) (.v 3)),(1,.a (.v 0) (.a (.v 0) (.v 3)),.a (.v 4) (.n 1)),(1,.v 4,.a (.v 1) (.v 2))] 1 (.v 0) (.v 1) rfl hj (l_g (lo+(lo+m)) (1)) (l_g (lo+(lo+m) - 1) (j))) (by exact li [lo+(lo+m) - 1 - j,lo+(lo+m) - 1 - i,i,j,lo+(lo+m) - 1] [([3],[4]),([1,4],[5]),([5],[2,3])] [1] [2] rfl hij (l_d (lin [j,lo+(lo+m) - 1,lo,m] [(1,.a (.v 0) (.n 1),.a (.v 2) (.v 3)),(1,.a (.v 2) (.a (.v 2) (.v 3)),.a (.v 1) (.n 1))] 1 (.v 0) (.v 1) rfl hj (l_g (lo+(lo+m)) (1)))) (l_g (lo+(lo+m) - 1) (i))) (by exact lin [lo+(lo+m) - 1 - i,lo,m,i,lo+(lo+m) - 1] [(1,.v 1,.v 3),(1,.a (.v 4) (.n 1),.a (.v 1) (.a (.v 1) (.v 2))),(1,.a (.v 0) (.v 3),.v 4)] 1 (.a (.v 0) (.n 1)) (.a (.v 1) (.v 2)) rfl hi (l_d (lin [lo,m,j] [(1,.a (.v 2) (.n 1),.a (.v 0) (.v 1))] 1 (.n 1) (.a (.v 0) (.a (.v 0) (.v 1))) rfl hj)) (l_d (lin [i,lo+(lo+m) - 1,j,lo,m] [(1,.v 0,.v 2),(1,.a (.v 2) (.n 1),.a (.v 3) (.v 4)),(1,.a (.v 3) (.a (.v 3) (.v 4)),.a (.v 1) (.n 1))] 1 (.v 0) (.v 1) rfl hij hj (l_g (lo+(lo+m)) (1)))))
theorem pX {st:SortSt} {lo nrem:Nat} {Q:Option Nat→SortSt→Prop} (hL:pQ prog w A E s kd κ a₀) (hn:lo+nrem≤a₀.size) (h1:1≤nrem) (hB:SB kd a₀ st)
  (h: ∀ m st',SB kd a₀ st'→pendingOf st'=pendingOf st→iL (arrOf st) (arrOf st') lo→1≤m→m≤nrem→Seg κ (arrOf st') lo (lo+m)→Q (some m) st'):
  wpS (model prog w) A E s (countRun' lo nrem) Q st:=by
 have hone: ∀ xs:Array Keyed,Seg κ xs lo (lo+1):=fun xs i j hi hij hj=>by
  obtain rfl:i=j:=by exact l_a (hij) (li [j,i,lo] [([3],[2]),([1,0],[3,0])] [1] [2] rfl hi hj)
  exact Int.le_refl _
 rw [countRun'_eq]
 refine wpS_bind (gO (g:=fun n=>(none,n)) (bad:=fun n=>(some none,n)) hL hn (Nat.le_refl 1) h1 hB (fun i x=>rfl) (hone _) fun n hn1 hn2 hsn hor=>?_)
 dsimp only
 by_cases hnn:n=nrem
 ·rw [if_pos (by simpa using hnn)]
  exact wpS_pure (h n st hB rfl (fun _ _=>rfl) hn1 hn2 hsn)
 ·rw [if_neg (by simpa using hnn)]
  have hlt:kAt κ (arrOf st) (lo+n) < kAt κ (arrOf st) (lo+n - 1):=hor.resolve_left hnn
  have hsz:lo+n≤(arrOf st).size:=by rw [hB.size]; exact li [lo,n,a₀.size,nrem] [([1,4],[3]),([2],[4])] [1,2] [3] rfl hn hn2
  by_cases hgt:n > 1
  ·rw [if_pos hgt]
   refine wpS_bind (gN hL hB (by exact li [lo,a₀.size,nrem] [([1,3],[2]),([0],[3])] [1,0] [2] rfl hn h1) (by exact li [lo+n - 1,a₀.size,lo,nrem,n] [([3,4],[2]),([5],[4]),([1,0],[3,5])] [1,0] [2] rfl hn hn2 (l_d (li [lo,n] [([0],[2])] [0] [1,2] rfl hn1))) ?_)
   by_cases hrose:kAt κ (arrOf st) lo < kAt κ (arrOf st) (lo+n - 1)
   ·simp only [hrose,decide_true,if_true]
    exact wpS_pure (h n st hB rfl (fun _ _=>rfl) hn1 hn2 hsn)
   ·simp only [hrose,decide_false,Bool.false_eq_true,if_false]
    have hall: ∀ k,lo≤k→k < lo+n→kAt κ (arrOf st) k=kAt κ (arrOf st) (lo+n - 1):=by
     intro k hk1 hk2
     have a1:=hsn lo k (by exact li [lo] [] [1] [1] rfl) hk1 hk2
     have a2:=hsn k (lo+n - 1) hk1 (by exact li [k,lo+n - 1,lo,n] [([1,0],[3,4]),([3,4],[2,0])] [1] [2] rfl hk2 (l_g (lo+n) (1))) (by exact (l_d (li [lo,n,k] [([3,0],[1,2])] [0] [1,2] rfl hk2)))
     exact Int.le_antisymm a2 (Int.le_trans (Int.not_lt.mp hrose) a1)
    have hdn:pR κ (arrOf st) lo (lo+n):=fun i j hi hij hj=>by rw [hall i hi (by exact li [i,lo,n,j] [([1],[4]),([4,0],[2,3])] [1,0] [2,3] rfl hij hj),hall j (by exact li [lo,j,i] [([1],[3]),([3],[2])] [1] [2] rfl hi hij) hj]; exact Int.le_refl _
    refine wpS_bind (wpS_reverse ?_)
    refine wpS_bind (wpS_lift (wpAny_rule ⟨rfl,?_⟩))
    refine wpS_bind (mX (g:=fun n q=>(none,n,q)) (bad:=fun n q=>(some none,n,q)) hL hn (by exact li [n] [] [0] [1,0] rfl) (by exact (Nat.lt_of_le_of_ne (hn2) hnn)) (hB.setArr (mirror_perm _ _ _ _)) (fun i x q=>rfl) ((hdn.more (by exact li [lo,n] [([0],[2])] [1,0] [1,2] rfl hn1) (Int.le_of_lt hlt)).same (bV hsz hall)) fun m q st' hB' hp ha hm1 hm2 hs' hq he=>?_)
    dsimp only
    have hsz':lo+m≤(arrOf st').size:=by rw [hB'.size]; exact li [lo,m,a₀.size,nrem] [([1,4],[3]),([2],[4])] [1,2] [3] rfl hn hm2
    have ha0:=(bg (xs:=arrOf st) (i:=lo) (j:=lo+n) hsz (Nat.le_refl lo)).trans ha
    by_cases hq0:q > 0
    ·rw [if_pos hq0]
     refine wpS_bind (wpS_reverse (wpS_bind (wpS_reverse ?_)))
     have hsz2:lo+m≤(mirror (arrOf st') (lo+m - (q+1)) (lo+m) ((lo+m - (lo+m - (q+1))) / 2)).size:=by rw [mirror_size]; exact hsz'
     refine wpS_bind (gO (g:=fun n=>(none,n)) (bad:=fun n=>(some none,n)) hL hn (by exact li [m,q] [([2,0],[1])] [0] [1] rfl hq) hm2 ((hB'.setArr (mirror_perm _ _ _ _)).setArr (mirror_perm _ _ _ _)) (fun i x=>rfl) ((hs'.same (bV hsz' he)).turn hsz2) fun m' hm1' hm2' hsm _=>
      wpS_pure (h m' _ ((hB'.setArr (mirror_perm _ _ _ _)).setArr (mirror_perm _ _ _ _)) hp ((ha0.trans (bg hsz' (by exact li [lo,lo+m - (q+1),q,m] [([3,0],[4]),([1,4],[2,3,0])] [1] [2] rfl hq (l_g (lo+m) (q+1))))).trans (bg hsz2 (Nat.le_refl lo))) (by exact li [m',q,m] [([2,0],[3]),([3],[1])] [0] [1] rfl hq hm1') hm2' hsm))
    ·rw [if_neg hq0]
     refine wpS_bind (wpS_reverse ?_)
     exact wpS_bind (gO (g:=fun n=>(none,n)) (bad:=fun n=>(some none,n)) hL hn (by exact li [m,q] [([2,0],[1])] [0] [1] rfl hq) hm2 (hB'.setArr (mirror_perm _ _ _ _)) (fun i x=>rfl) (hs'.turn hsz') fun m' hm1' hm2' hsm _=>
      wpS_pure (h m' _ (hB'.setArr (mirror_perm _ _ _ _)) hp (ha0.trans (bg hsz' (Nat.le_refl lo))) (by exact li [m',q,m] [([2,0],[3]),([3],[1])] [0] [1] rfl hq hm1') hm2' hsm))
  ·rw [if_neg hgt]
   obtain rfl:n=1:=by exact l_a ((l_t hgt)) (hn1)
   have hdn:pR κ (arrOf st) lo (lo+1):=fun i j hi hij hj=>by
    obtain rfl:i=j:=by exact l_a (hij) (li [j,i,lo] [([3],[2]),([1,0],[3,0])] [1] [2] rfl hi hj)
    exact Int.le_refl _
   refine wpS_bind (wpS_lift (wpAny_rule ⟨rfl,?_⟩))
   refine wpS_bind (mX (g:=fun n q=>(none,n,q)) (bad:=fun n q=>(some none,n,q)) hL hn (by exact li [] [] [0] [0,0] rfl) (by exact (Nat.lt_of_le_of_ne (h1) hnn)) hB (fun i x q=>rfl) (hdn.more (by exact li [lo] [] [1,0] [1,0] rfl) (Int.le_of_lt hlt)) fun m q st' hB' hp ha hm1 hm2 hs' hq he=>?_)
   dsimp only
   have hsz':lo+m≤(arrOf st').size:=by rw [hB'.size]; exact li [lo,m,a₀.size,nrem] [([1,4],[3]),([2],[4])] [1,2] [3] rfl hn hm2
   by_cases hq0:q > 0
   ·rw [if_pos hq0]
    refine wpS_bind (wpS_reverse (wpS_bind (wpS_reverse ?_)))
    have hsz2:lo+m≤(mirror (arrOf st') (lo+m - (q+1)) (lo+m) ((lo+m - (lo+m - (q+1))) / 2)).size:=by rw [mirror_size]; exact hsz'
    refine wpS_bind (gO (g:=fun n=>(none,n)) (bad:=fun n=>(some none,n)) hL hn (by exact li [m] [([0,0],[1])] [0] [1] rfl hm1) hm2 ((hB'.setArr (mirror_perm _ _ _ _)).setArr (mirror_perm _ _ _ _)) (fun i x=>rfl) ((hs'.same (bV hsz' he)).turn hsz2) fun m' hm1' hm2' hsm _=>
     wpS_pure (h m' _ ((hB'.setArr (mirror_perm _ _ _ _)).setArr (mirror_perm _ _ _ _)) hp ((ha.trans (bg hsz' (by exact li [lo,lo+m - (q+1),q,m] [([3,0],[4]),([1,4],[2,3,0])] [1] [2] rfl hq (l_g (lo+m) (q+1))))).trans (bg hsz2 (Nat.le_refl lo))) (by exact li [m',m] [([0,0],[2]),([2],[1])] [0] [1] rfl hm1 hm1') hm2' hsm))
   ·rw [if_neg hq0]
    refine wpS_bind (wpS_reverse ?_)
    exact wpS_bind (gO (g:=fun n=>(none,n)) (bad:=fun n=>(some none,n)) hL hn (by exact li [m] [([0,0],[1])] [0] [1] rfl hm1) hm2 (hB'.setArr (mirror_perm _ _ _ _)) (fun i x=>rfl) (hs'.turn hsz') fun m' hm1' hm2' hsm _=>
     wpS_pure (h m' _ (hB'.setArr (mirror_perm _ _ _ _)) hp (ha.trans (bg hsz' (Nat.le_refl lo))) (by exact li [m',m] [([0,0],[2]),([2],[1])] [0] [1] rfl hm1 hm1') hm2' hsm))
end
end
noncomputable section
open PySem PyProof.Rows
noncomputable def rn:Bool→Keyed→Array Keyed→Nat→Nat→Nat→StateT SortSt Sem (Option Nat):=sortPriv% PySem.Builtin.gallop
section
variable {prog:Program} {w:World} {A:Around} {E:Value→Shared→Prop} {s:Shared} {kd:SortKind} {κ:Keyed→Int} {a₀:Array Keyed}
theorem kt {st:SortSt} {n maxofs:Nat} {β:Type} {g bad:Nat→Nat→β} {b:Nat→StateT SortSt Sem (Option Bool)} {neg:Bool→Bool} {v:Nat→Bool} {f:Nat→β→StateT SortSt Sem (ForInStep β)} {Q:β→SortSt→Prop} (hm:maxofs≤n) (hm1:1≤maxofs)
  (hb: ∀ o,o < maxofs→∀ R:Option Bool→SortSt→Prop,(∀ y,neg y= !(v o)→R (some y) st)→wpS (model prog w) A E s (b o) R st)
  (hf: ∀ i l o,f i (g l o)=if o ≥ maxofs then pure (ForInStep.done (g l o)) else do
   let __x ← b o
   match __x with
   | some y=>if neg y=true then pure (ForInStep.done (g l o)) else pure (ForInStep.yield (g o (2*o+1)))
   | _=>pure (ForInStep.done (bad l o)))
  (h: ∀ l o,l < o→l < maxofs→(l=0∨v l=true)→(maxofs≤o∨v o=false)→Q (g l o) st):wpS (model prog w) A E s (forIn [0:n] (g 0 1) f) Q st:=by
 refine wpS_forRange (I:=fun x c st'=>st'=st∧∃ l o,c=g l o∧l < o∧l < maxofs∧(l=0∨v l=true)∧x+1≤o) ?step ?fin ⟨rfl,0,1,rfl,by exact lin [] [] 1 (.a (.n 0) (.n 1)) (.n 1) rfl,by exact lin [_] [(1,.n 1,.v 0)] 1 (.a (.n 0) (.n 1)) (.v 0) rfl hm1,.inl rfl,by exact lin [] [] 1 (.a (.n 0) (.n 1)) (.n 1) rfl⟩
 case fin=>
  rintro c st' ⟨rfl,l,o,rfl,h1,h2,h3,h4⟩
  exact h l o h1 h2 h3 (.inl (by exact li [_,o,n,_] [([1],[3]),([4,0],[2]),([3],[4])] [1] [2] rfl hm h4 (Nat.le_max_right _ _)))
 case step=>
  rintro x c st' _ hx ⟨rfl,l,o,rfl,h1,h2,h3,h4⟩
  rw [hf]
  by_cases ho:o ≥ maxofs
  ·rw [if_pos ho]; exact wpS_pure (h l o h1 h2 h3 (.inl ho))
  ·rw [if_neg ho]
   refine wpS_bind (hb o (by exact (l_n ho)) _ fun y hy=>?_)
   cases hv:v o with
   | true=>
    have: ¬ neg y=true:=by rw [hy,hv]; decide
    simp only [this,if_false]
    exact wpS_pure ⟨rfl,o,2*o+1,rfl,by exact lin [o] [] 1 (.a (.v 0) (.n 1)) (.a (.m 2 (.v 0)) (.n 1)) rfl,by exact (l_n ho),.inr hv,by exact lin [x,o] [(1,.a (.v 0) (.n 1),.v 1)] 1 (.a (.a (.v 0) (.n 1)) (.n 1)) (.a (.m 2 (.v 1)) (.n 1)) rfl h4⟩
   | false=>
    have:neg y=true:=by rw [hy,hv]; rfl
    simp only [this,if_true]
    exact wpS_pure (h l o h1 h2 h3 (.inr hv))
theorem cC {l o:Nat} (h: ¬ l ≥ o):l≤l+(o - l) / 2∧l+(o - l) / 2+1≤o:=
 ⟨Nat.le_add_right _ _,Nat.lt_of_lt_of_eq (Nat.add_lt_add_left (Nat.div_lt_self (Nat.sub_pos_of_lt (Nat.lt_of_not_le h)) (by decide)) l) (Nat.add_sub_cancel' (Nat.le_of_not_le h))⟩
theorem pW {st:SortSt} {n lo₀ hi₀:Nat} {β:Type} {g bad:Nat→Nat→β} {b:Nat→StateT SortSt Sem (Option Bool)} {v:Nat→Bool} {f:Nat→β→StateT SortSt Sem (ForInStep β)} {Q:β→SortSt→Prop} (hlh:lo₀≤hi₀) (hhn:hi₀≤n)
  (hmono: ∀ i j,i≤j→j < n→v j=true→v i=true) (hlo: ∀ i,i < lo₀→v i=true) (hhi: ∀ i,hi₀≤i→i < n→v i=false)
  (hb: ∀ o,o < n→∀ R:Option Bool→SortSt→Prop,R (some (v o)) st→wpS (model prog w) A E s (b o) R st)
  (hf: ∀ i l o,f i (g l o)=if l ≥ o then pure (ForInStep.done (g l o)) else do
   let __x ← b (l+(o - l) / 2)
   match __x with
   | some y=>if y=true then pure (ForInStep.yield (g (l+(o - l) / 2+1) o)) else pure (ForInStep.yield (g l (l+(o - l) / 2)))
   | _=>pure (ForInStep.done (bad l o)))
  (h: ∀ l k,k≤n→(∀ i,i < k→v i=true)→(∀ i,k≤i→i < n→v i=false)→Q (g l k) st):wpS (model prog w) A E s (forIn [0:n] (g lo₀ hi₀) f) Q st:=by
 refine wpS_forRange (I:=fun x c st'=>st'=st∧∃ l o,c=g l o∧l≤o∧o≤n∧o - l≤n - x∧(∀ i,i < l→v i=true)∧(∀ i,o≤i→i < n→v i=false)) ?step ?fin ⟨rfl,lo₀,hi₀,rfl,hlh,hhn,by exact lin [_,_,_,n,_] [(1,.v 2,.v 3),(1,.a (.v 0) (.v 4),.v 2),(1,.v 3,.a (.v 1) (.n 0))] 1 (.v 0) (.v 1) rfl hhn (l_d (hlh)) (l_g _ _),hlo,hhi⟩
 case fin=>
  rintro c st' ⟨rfl,l,o,rfl,h1,h2,h3,h4,h5⟩
  obtain rfl:l=o:=by exact l_a (h1) (li [o,l,_,_,n,_] [([3],[4]),([1],[3,2]),([5],[6]),([4,6],[5])] [1] [2] rfl h3 (l_g _ _) (Nat.le_max_right _ _) (l_d ((l_y (li [n] [] [] [1] rfl )))))
  exact h l l h2 h4 h5
 case step=>
  rintro x c st' _ hx ⟨rfl,l,o,rfl,h1,h2,h3,h4,h5⟩
  rw [hf]
  by_cases ho:l ≥ o
  ·obtain rfl:l=o:=by exact l_a (h1) (ho)
   rw [if_pos ho]; exact wpS_pure (h l l h2 h4 h5)
  ·rw [if_neg ho]
   refine wpS_bind (hb _ (Nat.lt_of_lt_of_le (cC ho).2 h2) _ ?_)
   cases hv:v (l+(o - l) / 2) with
   | true=>
    simp only [if_true]
    exact wpS_pure ⟨rfl,_,o,rfl,(cC ho).2,h2,ue (cC ho).1 h3,fun i hi=>hmono i _ (Nat.le_of_lt_succ hi) (Nat.lt_of_lt_of_le (cC ho).2 h2) hv,h5⟩
   | false=>
    simp only [Bool.false_eq_true,if_false]
    refine wpS_pure ⟨rfl,l,_,rfl,(cC ho).1,Nat.le_trans (Nat.le_of_succ_le (cC ho).2) h2,ud (cC ho).1 (cC ho).2 h3,h4,fun i hi hn=>?_⟩
    cases hv':v i with
    | false=>rfl
    | true=>rw [hmono _ i hi hn hv'] at hv; cases hv
noncomputable def bz (κ:Keyed→Int) (left:Bool) (key:Keyed) (arr:Array Keyed) (base i:Nat):Bool:=if left then decide (kAt κ arr (base+i) < κ key) else decide (kAt κ arr (base+i)≤κ key)
theorem cm {st:SortSt} {left:Bool} {key:Keyed} {arr:Array Keyed} {base n hint:Nat} {Q:Option Nat→SortSt→Prop} (hL:pQ prog w A E s kd κ a₀) (hk:kindOf st=kd) (hkey:key∈a₀.toList)
  (harr: ∀ i,i < n→∃ p,arr[base+i]?= some p∧p∈a₀.toList) (hs:Seg κ arr base (base+n)) (hh:hint < n)
  (h: ∀ k,k≤n→(∀ i,i < k→bz κ left key arr base i=true)→(∀ i,k≤i→i < n→bz κ left key arr base i=false)→Q (some k) st):
  wpS (model prog w) A E s (rn left key arr base n hint) Q st:=by
 have hmono: ∀ i j,i≤j→j < n→bz κ left key arr base j=true→bz κ left key arr base i=true:=fun i j hij hj hv=>by
  have:=hs (base+i) (base+j) (by exact li [_,i] [] [1] [1,2] rfl) (by exact li [_,i,j] [([2],[3])] [1,2] [1,3] rfl hij) (by exact li [_,j,n] [([2,0],[3])] [1,2,0] [1,3] rfl hj)
  unfold bz at hv ⊢
  cases left
  ·simp only [Bool.false_eq_true,if_false,decide_eq_true_eq] at hv ⊢; exact (Int.le_trans this hv)
  ·simp only [if_true,decide_eq_true_eq] at hv ⊢; exact (Int.lt_of_le_of_lt this hv)
 have hb: ∀ o,o < n→∀ R:Option Bool→SortSt→Prop,R (some (bz κ left key arr base o)) st→wpS (model prog w) A E s (do
   let x ← elem' arr (base+o)
   if left=true then lt' x key else do
    let y ← lt' key x
    pure (Option.map (fun x=>!x) y)) R st:=fun o ho R hR=>by
  obtain ⟨p,e,hp⟩:=harr o ho
  refine wpS_bind (gk e ?_)
  have hkp:kAt κ arr (base+o)=κ p:=by rw [kAt,e]; rfl
  unfold bz at hR
  rw [hkp] at hR
  cases left
  ·simp only [Bool.false_eq_true,if_false] at hR ⊢
   refine wpS_bind (hL key p hkey hp st _ hk (wpS_pure ?_))
   have:(!decide (κ key < κ p))=decide (κ p≤κ key):=by rw [Bool.eq_iff_iff]; simp
   rw [Option.map_some,this]; exact hR
  ·simp only [if_true] at hR ⊢
   exact hL p key hp hkey st R hk hR
 unfold rn
 refine wpS_bind (hb hint hh _ ?_)
 have fin: ∀ lo hi,lo≤hi→hi≤n→(∀ i,i < lo→bz κ left key arr base i=true)→(∀ i,hi≤i→i < n→bz κ left key arr base i=false)→∀ (f:Nat→Option (Option Nat)×Nat×Nat→StateT SortSt Sem (ForInStep (Option (Option Nat)×Nat×Nat))) (k:Option (Option Nat)×Nat×Nat→StateT SortSt Sem (Option Nat)),
   (∀ i l o,f i (none,l,o)=if l ≥ o then pure (ForInStep.done (none,l,o)) else do
    let __x ← (do
     let x ← elem' arr (base+(l+(o - l) / 2))
     if left=true then lt' x key else do
      let y ← lt' key x
      pure (Option.map (fun x=>!x) y))
    match __x with
    | some y=>if y=true then pure (ForInStep.yield (none,l+(o - l) / 2+1,o)) else pure (ForInStep.yield (none,l,l+(o - l) / 2))
    | _=>pure (ForInStep.done (some none,l,o)))→(∀ l o,k (none,l,o)=pure (some o))→
   wpS (model prog w) A E s (forIn [0:n] (none,lo,hi) f >>= k) Q st:=fun lo hi h1 h2 h3 h4 f k hf hk'=>
  wpS_bind (pW (g:=fun l o=>(none,l,o)) (bad:=fun l o=>(some none,l,o)) (v:=bz κ left key arr base) h1 h2 hmono h3 h4 hb hf fun l o h5 h6 h7=>by rw [hk']; exact wpS_pure (h o h5 h6 h7))
 cases hv:bz κ left key arr base hint with
 | true=>
  simp only [if_true]
  refine wpS_bind (kt (g:=fun l o=>(none,l,o)) (bad:=fun l o=>(some none,l,o)) (neg:=fun y=>!y) (v:=fun o=>bz κ left key arr base (hint+o)) (maxofs:=n - hint) (by exact li [_,n,_] [([1,3],[2])] [1] [2] rfl (l_d (li [_,n] [([1,0],[2])] [1] [2] rfl hh))) (by exact li [_,_,n] [([2,0],[3]),([3],[1,2])] [0] [1] rfl hh (l_g _ _)) (fun o ho R hR=>hb (hint+o) (by exact li [_,o,n,_] [([2,0],[4]),([4,1],[3])] [1,2,0] [3] rfl ho (l_d (li [_,n] [([1,0],[2])] [1] [2] rfl hh))) R (hR _ rfl)) (fun i l o=>rfl) fun l o h1 h2 h3 h4=>?_)
  refine fin (hint+l+1) (hint+min o (n - hint)) (by exact (Nat.le_total (o) (n - hint)).elim (fun q=>li [_,l,_,o] [([2,0],[4]),([4],[3])] [1,2,0] [1,3] rfl h1 (l_m (q))) (fun q=>li [_,l,_,_] [([2,0],[4]),([4],[3])] [1,2,0] [1,3] rfl h2 (l_r (q)))) (by exact li [_,_,n,_] [([4,1],[3]),([2],[4])] [1,2] [3] rfl (l_d (li [_,n] [([1,0],[2])] [1] [2] rfl hh)) (Nat.min_le_right _ _)) (fun i hi=>?_) (fun i hi hn=>?_) _ _ (fun _ _ _=>rfl) (fun _ _=>rfl)
  ·rcases h3 with rfl | h3
   ·exact hmono i hint (by exact lin [i,_] [(1,.a (.v 0) (.n 1),.a (.a (.v 1) (.n 0)) (.n 1))] 1 (.v 0) (.v 1) rfl hi) (by exact hh) hv
   ·exact hmono i (hint+l) (by exact li [i,_,l] [([1,0],[2,3,0])] [1] [2,3] rfl hi) (by exact li [_,l,n,_] [([2,0],[4]),([4,1],[3])] [1,2,0] [3] rfl h2 (l_d (li [_,n] [([1,0],[2])] [1] [2] rfl hh))) h3
  ·cases hq:bz κ left key arr base i with
   | false=>rfl
   | true=>
    rcases h4 with h4 | h4
    ·exact (l_z (lin [_,_,i,n,_] [(1,.a (.v 0) (.v 1),.v 2),(1,.a (.v 2) (.n 1),.v 3),(1,.v 3,.a (.v 4) (.v 0)),(1,.v 4,.v 1)] 0 (.n 1) (.n 0) rfl hi hn (l_g _ _) (l_r (h4)))).elim
    ·rw [hmono (hint+o) i (by exact (Nat.le_total (o) (n - hint)).elim (fun q=>li [_,o,i,_] [([1,4],[3]),([2],[4])] [1,2] [3] rfl hi (l_m (q))) (fun q=>lin [_,o,i,_,n,_] [(1,.a (.v 0) (.v 3),.v 2),(1,.a (.v 2) (.n 1),.v 4),(1,.v 4,.a (.v 5) (.v 0)),(1,.v 5,.v 3)] 0 (.a (.v 0) (.v 1)) (.v 2) rfl hi hn (l_g _ _) (l_r (q)))) hn hq] at h4; cases h4
 | false=>
  simp only [Bool.false_eq_true,if_false]
  refine wpS_bind (kt (g:=fun l o=>(none,l,o)) (bad:=fun l o=>(some none,l,o)) (neg:=fun y=>y) (v:=fun o=>!bz κ left key arr base (hint - o)) (maxofs:=hint+1) (by exact hh) (by exact li [_] [] [0] [1,0] rfl) (fun o ho R hR=>hb (hint - o) (by exact li [_,n,_,o] [([3,0],[2]),([1,4],[3])] [1,0] [2] rfl hh (l_d (li [o,_] [([1,0],[2,0])] [1] [2] rfl ho))) R (hR _ (by rw [Bool.not_not]))) (fun i l o=>rfl) fun l o h1 h2 h3 h4=>?_)
  refine fin (hint+1 - min o (hint+1)) (hint - l) (by exact (Nat.le_total (o) (hint+1)).elim (fun q=>li [_,_,l,o,_,_] [([3,0],[4]),([5],[2,3]),([4],[6]),([1,6],[5,0])] [1] [2] rfl h1 (l_g _ _) (l_m (q)) (l_d (li [_,_,o] [([3],[2,0]),([1],[3])] [1] [2,0] rfl q (Nat.min_le_left _ _)))) (fun q=>li [_,_,_,_] [([3,0],[4]),([1,4],[3,0])] [1] [2] rfl (l_r (q)) (l_d ((Nat.min_le_right _ _))))) (by exact li [_,n,_,l] [([3,0],[2]),([1,4],[3])] [1] [2] rfl hh (l_d (li [l,_] [([1,0],[2,0])] [1] [2] rfl h2))) (fun i hi=>?_) (fun i hi hn=>?_) _ _ (fun _ _ _=>rfl) (fun _ _=>rfl)
  ·rcases h4 with h4 | h4
   ·exact (l_z (lin [i,_,_,_] [(1,.a (.v 0) (.n 1),.v 1),(1,.a (.v 1) (.v 2),.a (.v 3) (.n 1)),(1,.a (.v 3) (.n 1),.v 2)] 0 (.n 1) (.n 0) rfl hi (l_p (li [_,i] [([2,0],[1])] [0] [1] rfl hi)) (l_r (h4)))).elim
   ·rw [Bool.not_eq_false'] at h4
    exact hmono i (hint - o) (by exact (Nat.le_total (o) (hint+1)).elim (fun q=>li [i,_,_,_,_,o] [([1,0],[3]),([3,4],[5,0]),([6],[4]),([5],[2,6])] [1] [2] rfl hi (l_p (li [_,i] [([2,0],[1])] [0] [1] rfl hi)) (l_m (q)) (l_g _ _)) (fun q=>lin [i,_,_,_,_] [(1,.a (.v 0) (.n 1),.v 2),(1,.a (.v 2) (.v 3),.a (.v 4) (.n 1)),(1,.a (.v 4) (.n 1),.v 3)] 0 (.v 0) (.v 1) rfl hi (l_p (li [_,i] [([2,0],[1])] [0] [1] rfl hi)) (l_r (q)))) (by exact li [_,n,_] [([3,0],[2]),([1],[3])] [1,0] [2] rfl hh (Nat.sub_le _ _)) h4
  ·cases hq:bz κ left key arr base i with
   | false=>rfl
   | true=>
    rcases h3 with rfl | h3
    ·rw [hmono hint i (by exact lin [_,i,_] [(1,.v 2,.v 1),(1,.v 0,.a (.v 2) (.n 0))] 1 (.v 0) (.v 1) rfl hi (l_g _ _)) hn hq] at hv; cases hv
    ·rw [hmono (hint - l) i hi hn hq] at h3; cases h3
end
end
noncomputable section
open PySem PyProof.Rows
noncomputable def Srt (κ:Keyed→Int) (l:List Keyed):Prop:=l.Pairwise fun x y=>κ x≤κ y
section
variable {κ:Keyed→Int}
theorem bp {xs:Array Keyed} {i:Nat} {p:Keyed} (e:xs[i]?= some p):kAt κ xs i=κ p:=by rw [kAt,e]; rfl
theorem gL {xs:Array Keyed} {i:Nat} {y:Keyed} (h:y∈xs.toList.drop i): ∃ j,i≤j∧j < xs.size∧xs[j]?= some y:=by
 rw [List.mem_iff_getElem?] at h
 obtain ⟨n,hn⟩:=h
 rw [List.getElem?_drop,Array.getElem?_toList] at hn
 exact ⟨i+n,by exact li [i,n] [] [1] [1,2] rfl,(Array.getElem?_eq_some_iff.mp hn).1,hn⟩
theorem Seg.le_drop {xs:Array Keyed} {lo i:Nat} (h:Seg κ xs lo xs.size) (hi:lo≤i) {y:Keyed} (hy:y∈xs.toList.drop i):kAt κ xs i≤κ y:=by
 obtain ⟨j,h1,h2,h3⟩:=gL hy
 rw [← bp (κ:=κ) h3]
 exact h i j hi h1 h2
theorem rK {xs:Array Keyed} {i:Nat} {p:Keyed} (e:xs[i]?= some p):xs.toList.drop i=p::xs.toList.drop (i+1):=by
 have hi:=(Array.getElem?_eq_some_iff.mp e).1
 rw [List.drop_eq_getElem_cons (by simpa using hi)]
 congr 1
 rw [Array.getElem_toList]
 exact (Array.getElem?_eq_some_iff.mp e).2
theorem oM {xs:Array Keyed} {i:Nat} {p:Keyed} (e:xs[i]?= some p):xs.toList.take (i+1)=xs.toList.take i++[p]:=by
 rw [List.take_add_one,Array.getElem?_toList,e]; rfl
structure G (κ:Keyed→Int) (a b out:Array Keyed) (ia ib:Nat):Prop where
 perm:out.toList.Perm (a.toList.take ia++b.toList.take ib)
 srt:Srt κ out.toList
 leA: ∀ x∈out.toList,∀ y∈a.toList.drop ia,κ x≤κ y
 leB: ∀ x∈out.toList,∀ y∈b.toList.drop ib,κ x≤κ y
theorem G.swap {a b out:Array Keyed} {ia ib:Nat} (g:G κ a b out ia ib):G κ b a out ib ia:=⟨g.perm.trans List.perm_append_comm,g.srt,g.leB,g.leA⟩
theorem G.pushA {a b out:Array Keyed} {ia ib:Nat} {p:Keyed} (g:G κ a b out ia ib) (e:a[ia]?= some p) (hs:Seg κ a 0 a.size) (hp: ∀ y∈b.toList.drop ib,κ p≤κ y):G κ a b (out.push p) (ia+1) ib:=by
 have hd:=rK e
 refine ⟨?_,?_,fun x hx y hy=>?_,fun x hx y hy=>?_⟩
 ·rw [Array.toList_push,oM e]
  refine (g.perm.append_right [p]).trans ?_
  rw [List.append_assoc,List.append_assoc]
  exact List.Perm.append_left _ List.perm_append_comm
 ·rw [Array.toList_push]
  refine List.pairwise_append.mpr ⟨g.srt,List.pairwise_singleton _ _,fun x hx y hy=>?_⟩
  rw [List.mem_singleton.mp hy]
  exact g.leA x hx p (by rw [hd]; exact List.mem_cons_self)
 ·rw [Array.toList_push,List.mem_append,List.mem_singleton] at hx
  rcases hx with hx | rfl
  ·exact g.leA x hx y (by rw [hd]; exact List.mem_cons_of_mem _ hy)
  ·rw [← bp (κ:=κ) e]; exact hs.le_drop (Nat.zero_le _) (by rw [hd]; exact List.mem_cons_of_mem _ hy)
 ·rw [Array.toList_push,List.mem_append,List.mem_singleton] at hx
  rcases hx with hx | rfl
  ·exact g.leB x hx y hy
  ·exact hp y hy
theorem lj {a:Array Keyed} {i k:Nat} {p:Keyed} (e:a[i+k]?= some p):a.extract i (i+(k+1))=(a.extract i (i+k)).push p:=by
 obtain ⟨hi,he⟩:=Array.getElem?_eq_some_iff.mp e
 rw [← he,Array.push_extract_getElem,Nat.min_eq_left (by exact li [i,k] [] [1] [1,2] rfl)]; rfl
theorem G.bulkA {a b out:Array Keyed} {ia ib:Nat} (g:G κ a b out ia ib) (hs:Seg κ a 0 a.size): ∀ k,ia+k≤a.size→(∀ i,i < k→∀ y∈b.toList.drop ib,kAt κ a (ia+i)≤κ y)→G κ a b (out++a.extract ia (ia+k)) (ia+k) ib
 | 0,_,_=>by
  have:a.extract ia (ia+0)= #[]:=by apply Array.toList_inj.mp; simp
  rw [this]; simpa using g
 | k+1,hk,h=>by
  have ih:=G.bulkA g hs k (by exact li [ia,k,_] [([1,2,0],[3])] [1,2] [3] rfl hk) fun i hi=>h i (by exact li [i,k] [([1,0],[2])] [1,0] [2,0] rfl hi)
  have e:a[ia+k]?= some a[ia+k]:=Array.getElem?_eq_getElem (by exact li [ia,k,_] [([1,2,0],[3])] [1,2,0] [3] rfl hk)
  rw [lj e,← Array.push_append]
  exact ih.pushA e hs fun y hy=>by rw [← bp (κ:=κ) e]; exact h k (by exact li [k] [] [1,0] [1,0] rfl) y hy
noncomputable def gf (κ:Keyed→Int) (a b r:Array Keyed):Prop:=r.toList.Perm (a.toList++b.toList)∧Srt κ r.toList
theorem Seg.srt_drop {xs:Array Keyed} (h:Seg κ xs 0 xs.size) (i:Nat):Srt κ (xs.toList.drop i):=by
 refine List.Pairwise.drop ?_
 rw [List.pairwise_iff_getElem]
 intro i j hi hj hij
 have:=h i j (Nat.zero_le _) (by exact li [i,j] [([1,0],[2])] [1] [2] rfl hij) (by simpa using hj)
 simpa [kAt,Array.getElem?_eq_getElem (show i < xs.size by simpa using hi),Array.getElem?_eq_getElem (show j < xs.size by simpa using hj)] using this
theorem fT (xs:Array Keyed) (i:Nat):(xs.extract i xs.size).toList=xs.toList.drop i:=by
 rw [Array.toList_extract,List.extract_eq_take_drop,List.take_of_length_le (by simp)]
theorem G.fin {a b out:Array Keyed} {ia ib:Nat} (g:G κ a b out ia ib) (ha:Seg κ a 0 a.size) (hb:Seg κ b 0 b.size) (h: ∀ x∈a.toList.drop ia,∀ y∈b.toList.drop ib,κ x≤κ y):gf κ a b (out++a.extract ia a.size++b.extract ib b.size):=by
 rw [gf,Array.toList_append,Array.toList_append,fT,fT]
 constructor
 ·have h1:=(g.perm.append_right (a.toList.drop ia)).append_right (b.toList.drop ib)
  refine h1.trans ?_
  have h2:((a.toList.take ia++b.toList.take ib)++a.toList.drop ia).Perm (a.toList++b.toList.take ib):=by
   have:(a.toList.take ia++b.toList.take ib++a.toList.drop ia).Perm (a.toList.take ia++(a.toList.drop ia++b.toList.take ib)):=by
    rw [List.append_assoc]; exact List.Perm.append_left _ List.perm_append_comm
   rwa [← List.append_assoc,List.take_append_drop] at this
  refine (h2.append_right _).trans ?_
  rw [List.append_assoc,List.take_append_drop]
 ·refine List.pairwise_append.mpr ⟨List.pairwise_append.mpr ⟨g.srt,ha.srt_drop ia,g.leA⟩,hb.srt_drop ib,fun x hx y hy=>?_⟩
  rcases List.mem_append.mp hx with hx | hx
  ·exact g.leB x hx y hy
  ·exact h x hx y hy
theorem gf.swap {a b r:Array Keyed} (h:gf κ a b r):gf κ b a r:=⟨h.1.trans List.perm_append_comm,h.2⟩
end
end
noncomputable section
open PySem PyProof.Rows
noncomputable def nL:Array Keyed→Array Keyed→StateT SortSt Sem (Array Keyed):=sortPriv% PySem.Builtin.mergeLo
structure be (st st':SortSt):Prop where
 kind:kindOf st'=kindOf st
 arr:arrOf st'=arrOf st
 pend:pendingOf st'=pendingOf st
 failed:failedOf st'=failedOf st
theorem be.rfl' (st:SortSt):be st st:=⟨rfl,rfl,rfl,rfl⟩
theorem be.trans {a b c:SortSt} (x:be a b) (y:be b c):be a c:=⟨y.kind.trans x.kind,y.arr.trans x.arr,y.pend.trans x.pend,y.failed.trans x.failed⟩
section
variable {prog:Program} {w:World} {A:Around} {E:Value→Shared→Prop} {s:Shared} {kd:SortKind} {κ:Keyed→Int} {a₀:Array Keyed}
theorem uw {xs:Array Keyed} {i:Nat} (h:i < xs.size): ∃ p,xs[i]?= some p∧p∈xs.toList:=⟨xs[i],Array.getElem?_eq_getElem h,by simp⟩
theorem au {α:Type} {c:Prop} [Decidable c] {x y:StateT SortSt Sem α} {Q:α→SortSt→Prop} {st:SortSt} (h1:c→wpS (model prog w) A E s x Q st) (h2: ¬ c→wpS (model prog w) A E s y Q st):wpS (model prog w) A E s (if c then x else y) Q st:=by
 by_cases h:c
 ·rw [if_pos h]; exact h1 h
 ·rw [if_neg h]; exact h2 h
theorem eP {f:SortSt→SortSt} {Q:PUnit→SortSt→Prop} {st:SortSt} (hf:be st (f st)) (h: ∀ st',be st st'→Q ⟨⟩ st'):wpS (model prog w) A E s (modify f:StateT SortSt Sem PUnit) Q st:=wpS_modify (h _ hf)
theorem bI {xs:Array Keyed} {i:Nat} {st:SortSt} {Q:Keyed→SortSt→Prop} (hi:i < xs.size) (h: ∀ p,xs[i]?= some p→p∈xs.toList→Q p st):wpS (model prog w) A E s (elem' xs i) Q st:=
 gk (Array.getElem?_eq_getElem hi) (h _ (Array.getElem?_eq_getElem hi) (by simp))
theorem dT {ρ X:Type} {n:Nat} {h:Array Keyed→Nat→Nat→ρ→X} {f:Nat→Option (Array Keyed)×X→StateT SortSt Sem (ForInStep (Option (Array Keyed)×X))} {st:SortSt} {Q:Option (Array Keyed)×X→SortSt→Prop}
  (I:Nat→Array Keyed→Nat→Nat→SortSt→Prop) (K:Array Keyed→Nat→Nat→SortSt→Prop) (D:Array Keyed→SortSt→Prop) {out:Array Keyed} {ia ib:Nat} {r:ρ} (h0:I 0 out ia ib st)
  (hstep: ∀ i out ia ib r st (R:ForInStep (Option (Array Keyed)×X)→SortSt→Prop),i < n→I i out ia ib st→(∀ v x st,D v st→R (.done (some v,x)) st)→
   (∀ out ia ib r st,K out ia ib st→R (.done (none,h out ia ib r)) st)→(∀ out ia ib r st,I (i+1) out ia ib st→R (.yield (none,h out ia ib r)) st)→wpS (model prog w) A E s (f i (none,h out ia ib r)) R st)
  (hend: ∀ out ia ib st,I n out ia ib st→K out ia ib st) (hd: ∀ v x st,D v st→Q (some v,x) st) (hk: ∀ out ia ib r st,K out ia ib st→Q (none,h out ia ib r) st):
  wpS (model prog w) A E s (forIn [0:n] (none,h out ia ib r) f) Q st:=by
 refine wpS_forRange (fun i c st=>∃ out ia ib r,c=(none,h out ia ib r)∧I i out ia ib st) ?_ ?_ ⟨out,ia,ib,r,rfl,h0⟩
 ·rintro i c st _ hi ⟨out,ia,ib,r,rfl,hI⟩
  exact hstep i out ia ib r st _ hi hI hd hk fun out ia ib r st q=>⟨out,ia,ib,r,rfl,q⟩
 ·rintro c st ⟨out,ia,ib,r,rfl,hI⟩
  exact hk out ia ib r st (hend _ _ _ _ (by rwa [Nat.zero_max] at hI))
theorem Dn {a b out:Array Keyed} {ia ib k:Nat} {pb:Keyed} (sa:Seg κ a 0 a.size) (sb:Seg κ b 0 b.size) (g:G κ a b out ia ib) (eb:b[ib]?= some pb) (hk1:k≤a.size - ia) (hk2: ∀ i,i < k→bz κ false pb a ia i=true) (hk3: ∀ i,k≤i→i < a.size - ia→bz κ false pb a ia i=false):
  G κ a b (out++a.extract ia (ia+k)) (ia+k) ib∧∀ y∈a.toList.drop (ia+k),κ pb≤κ y:=by
 refine ⟨?_,fun y hy=>?_⟩
 ·by_cases hia:ia≤a.size
  ·refine g.bulkA sa k (by exact li [ia,k,_,_] [([2],[4]),([4,1],[3])] [1,2] [3] rfl hk1 (l_d (hia))) fun i hi y hy=>?_
   have q:=hk2 i hi
   simp only [bz,Bool.false_eq_true,if_false,decide_eq_true_eq] at q
   have:=sb.le_drop (Nat.zero_le _) hy
   rw [bp (κ:=κ) eb] at this
   exact (Int.le_trans q this)
  ·obtain rfl:k=0:=by exact l_a (li [k,_] [([1],[2]),([2],[])] [1] [] rfl hk1 (l_o (li [_,ia] [([1,0],[2])] [1] [2] rfl (l_n hia)))) (li [k] [] [] [1] rfl )
   have:a.extract ia (ia+0)= #[]:=by apply Array.toList_inj.mp; simp
   rw [this]; simpa using g
 ·obtain ⟨j,q1,q2,q3⟩:=gL hy
  have q:=hk3 (j - ia) (by exact li [k,_,ia,j] [([3,1],[4]),([4],[2,3])] [1] [2] rfl q1 (l_g _ _)) (by exact li [_,_,j,_,ia] [([3,0],[4]),([4],[2,5]),([1,5],[3])] [1,0] [2] rfl q2 (l_g _ _) (l_d (li [ia,j,k] [([1,3],[2])] [1] [2] rfl q1)))
  simp only [bz,Bool.false_eq_true,if_false,decide_eq_false_iff_not] at q
  rw [show ia+(j - ia)=j by exact l_a (li [ia,_,j] [([2,1],[3])] [1,2] [3] rfl (l_d (li [ia,j,k] [([1,3],[2])] [1] [2] rfl q1))) (li [j,ia,_] [([1],[3,2])] [1] [2,3] rfl (l_g _ _)),bp (κ:=κ) q3] at q
  exact (Int.le_of_lt (Int.not_le.mp q))
theorem Dm {a b out:Array Keyed} {ia ib k:Nat} {pa:Keyed} (sa:Seg κ a 0 a.size) (sb:Seg κ b 0 b.size) (g:G κ a b out ia ib) (ea:a[ia]?= some pa) (hk1:k≤b.size - ib) (hk2: ∀ i,i < k→bz κ true pa b ib i=true) (hk3: ∀ i,k≤i→i < b.size - ib→bz κ true pa b ib i=false):
  G κ a b (out++b.extract ib (ib+k)) ia (ib+k)∧∀ y∈b.toList.drop (ib+k),κ pa≤κ y:=by
 refine ⟨?_,fun y hy=>?_⟩
 ·by_cases hib:ib≤b.size
  ·refine (g.swap.bulkA sb k (by exact li [ib,k,_,_] [([2],[4]),([4,1],[3])] [1,2] [3] rfl hk1 (l_d (hib))) fun i hi y hy=>?_).swap
   have q:=hk2 i hi
   simp only [bz,if_true,decide_eq_true_eq] at q
   have:=sa.le_drop (Nat.zero_le _) hy
   rw [bp (κ:=κ) ea] at this
   exact (Int.le_of_lt (Int.lt_of_lt_of_le q this))
  ·obtain rfl:k=0:=by exact l_a (li [k,_] [([1],[2]),([2],[])] [1] [] rfl hk1 (l_o (li [_,ib] [([1,0],[2])] [1] [2] rfl (l_n hib)))) (li [k] [] [] [1] rfl )
   have:b.extract ib (ib+0)= #[]:=by apply Array.toList_inj.mp; simp
   rw [this]; simpa using g
 ·obtain ⟨j,q1,q2,q3⟩:=gL hy
  have q:=hk3 (j - ib) (by exact li [k,_,ib,j] [([3,1],[4]),([4],[2,3])] [1] [2] rfl q1 (l_g _ _)) (by exact li [_,_,j,_,ib] [([3,0],[4]),([4],[2,5]),([1,5],[3])] [1,0] [2] rfl q2 (l_g _ _) (l_d (li [ib,j,k] [([1,3],[2])] [1] [2] rfl q1)))
  simp only [bz,if_true,decide_eq_false_iff_not] at q
  rw [show ib+(j - ib)=j by exact l_a (li [ib,_,j] [([2,1],[3])] [1,2] [3] rfl (l_d (li [ib,j,k] [([1,3],[2])] [1] [2] rfl q1))) (li [j,ib,_] [([1],[3,2])] [1] [2,3] rfl (l_g _ _)),bp (κ:=κ) q3] at q
  exact (Int.not_lt.mp q)
structure Lo (κ:Keyed→Int) (a b out:Array Keyed) (ia ib j:Nat):Prop where
 g:G κ a b out ia ib
 ha:ia+1 < a.size
 hb:ib < b.size
 hj:j≤ia+ib
theorem Lo.less {a b out:Array Keyed} {ia ib j j':Nat} (L:Lo κ a b out ia ib j') (h:j≤j'):Lo κ a b out ia ib j:=⟨L.g,L.ha,L.hb,Nat.le_trans h L.hj⟩
structure Mrg (kd:SortKind) (κ:Keyed→Int) (a₀ a b:Array Keyed):Prop where
 ma: ∀ p∈a.toList,p∈a₀.toList
 mb: ∀ p∈b.toList,p∈a₀.toList
 sa:Seg κ a 0 a.size
 sb:Seg κ b 0 b.size
 first:kAt κ b 0≤kAt κ a 0
 last: ∀ y∈b.toList,κ y≤kAt κ a (a.size - 1)
theorem Mrg.doneA {a b out:Array Keyed} {ia ib:Nat} (M:Mrg kd κ a₀ a b) (g:G κ a b out ia ib) (e:ia=a.size):gf κ a b (out++a.extract ia a.size++b.extract ib b.size):=
 g.fin M.sa M.sb fun x hx=>by rw [e,List.drop_of_length_le (by simp)] at hx; cases hx
theorem Mrg.doneB {a b out:Array Keyed} {ia ib:Nat} (M:Mrg kd κ a₀ a b) (g:G κ a b out ia ib) (e:ib=b.size):gf κ a b (out++a.extract ia a.size++b.extract ib b.size):=
 g.fin M.sa M.sb fun x hx y hy=>by rw [e,List.drop_of_length_le (by simp)] at hy; cases hy
theorem Mrg.lastA {a b out:Array Keyed} {ia ib:Nat} (M:Mrg kd κ a₀ a b) (g:G κ a b out ia ib) (e:ia+1=a.size):gf κ a b (out++b.extract ib b.size++a.extract ia a.size):=
 (g.swap.fin M.sb M.sa fun x hx y hy=>by
  obtain ⟨j,h1,h2,h3⟩:=gL hy
  have:=M.last x (List.mem_of_mem_drop hx)
  rw [show a.size - 1=j by exact l_a (li [_,j,_,ia] [([3],[4,0]),([4],[2]),([1,0],[3])] [1] [2] rfl (l_s e) h1 (l_d (li [_,j] [([2,0],[1])] [0] [1] rfl h2))) (li [j,_,_] [([1,0],[3]),([3],[2,0])] [1] [2] rfl h2 (l_g _ _)),bp (κ:=κ) h3] at this
  exact this).swap
theorem G.start (κ:Keyed→Int) (a b:Array Keyed):G κ a b #[] 0 0:=⟨by simp,List.Pairwise.nil,by simp,by simp⟩
theorem Lo.over {a b out:Array Keyed} {ia ib j:Nat} {P:Prop} (L:Lo κ a b out ia ib j) (h:a.size+b.size≤j):P:=by have:=L.ha; have:=L.hb; have:=L.hj; exact (l_z (lin [_,_,j,ia,ib] [(1,.a (.v 0) (.v 1),.v 2),(1,.a (.a (.v 3) (.n 1)) (.n 1),.v 0),(1,.a (.v 4) (.n 1),.v 1),(1,.v 2,.a (.v 3) (.v 4))] 0 (.n 1) (.n 0) rfl h (by assumption) (by assumption) this)).elim
theorem Lo.moreA {a b out out':Array Keyed} {ia ib j:Nat} (L:Lo κ a b out ia ib j) (g:G κ a b out' (ia+1) ib) (e: ¬ ia+1+1=a.size):Lo κ a b out' (ia+1) ib (j+1):=⟨g,Nat.lt_of_le_of_ne L.ha e,L.hb,by have:=L.hj; exact li [j,ia,ib] [([1],[2,3])] [1,0] [2,0,3] rfl this⟩
theorem Lo.moreB {a b out out':Array Keyed} {ia ib j:Nat} (L:Lo κ a b out ia ib j) (g:G κ a b out' ia (ib+1)) (e: ¬ ib+1=b.size):Lo κ a b out' ia (ib+1) (j+1):=⟨g,L.ha,Nat.lt_of_le_of_ne L.hb e,Nat.succ_le_succ L.hj⟩
theorem Mrg.lessB {a b out:Array Keyed} {ia ib:Nat} {pa pb:Keyed} (M:Mrg kd κ a₀ a b) (g:G κ a b out ia ib) (eb:b[ib]?= some pb) (ea:a[ia]?= some pa) (h:κ pb≤κ pa):G κ a b (out.push pb) ia (ib+1):=
 (g.swap.pushA eb M.sb fun y hy=>by have:=M.sa.le_drop (Nat.zero_le _) hy; rw [bp (κ:=κ) ea] at this; exact Int.le_trans h this).swap
theorem Mrg.lessA {a b out:Array Keyed} {ia ib:Nat} {pa pb:Keyed} (M:Mrg kd κ a₀ a b) (g:G κ a b out ia ib) (ea:a[ia]?= some pa) (eb:b[ib]?= some pb) (h:κ pa≤κ pb):G κ a b (out.push pa) (ia+1) ib:=
 g.pushA ea M.sa fun y hy=>by have:=M.sb.le_drop (Nat.zero_le _) hy; rw [bp (κ:=κ) eb] at this; exact Int.le_trans h this
theorem fk {i k n:Nat} (h:k≤n - i) (hi:i≤n):i+k≤n:=by exact li [i,k,n,_] [([2],[4]),([4,1],[3])] [1,2] [3] rfl h (l_d (hi))
theorem Mrg.inA {a b:Array Keyed} (M:Mrg kd κ a₀ a b) (ia:Nat): ∀ i,i < a.size - ia→∃ p,a[ia+i]?= some p∧p∈a₀.toList:=fun i hi=>let ⟨p,e,m⟩:=uw (show ia+i < a.size by exact li [ia,i,_,_] [([2,0],[4]),([4,1],[3])] [1,2,0] [3] rfl hi (l_p (li [_,i] [([2,0],[1])] [0] [1] rfl hi))); ⟨p,e,M.ma p m⟩
theorem Mrg.inB {a b:Array Keyed} (M:Mrg kd κ a₀ a b) (ib:Nat): ∀ i,i < b.size - ib→∃ p,b[ib+i]?= some p∧p∈a₀.toList:=fun i hi=>let ⟨p,e,m⟩:=uw (show ib+i < b.size by exact li [ib,i,_,_] [([2,0],[4]),([4,1],[3])] [1,2,0] [3] rfl hi (l_p (li [_,i] [([2,0],[1])] [0] [1] rfl hi))); ⟨p,e,M.mb p m⟩
theorem Mrg.segA {a b:Array Keyed} (M:Mrg kd κ a₀ a b) (ia:Nat):Seg κ a ia (ia+(a.size - ia)):=fun i j h1 h2 h3=>M.sa i j (Nat.zero_le _) h2 (by exact li [j,_,ia,_] [([1,0],[3,4]),([4,3],[2])] [1,0] [2] rfl h3 (l_p (li [_,ia,i,j] [([2],[3]),([3],[4]),([4,0],[2,1])] [0] [1] rfl h1 h2 h3)))
theorem Mrg.segB {a b:Array Keyed} (M:Mrg kd κ a₀ a b) (ib:Nat):Seg κ b ib (ib+(b.size - ib)):=fun i j h1 h2 h3=>M.sb i j (Nat.zero_le _) h2 (by exact li [j,_,ib,_] [([1,0],[3,4]),([4,3],[2])] [1,0] [2] rfl h3 (l_p (li [_,ib,i,j] [([2],[3]),([3],[4]),([4,0],[2,1])] [0] [1] rfl h1 h2 h3)))
theorem lK {a b:Array Keyed} {st:SortSt} {Q:Array Keyed→SortSt→Prop} (hL:pQ prog w A E s kd κ a₀) (hk:kindOf st=kd) (M:Mrg kd κ a₀ a b) (ha1:1≤a.size) (hb1:1≤b.size)
  (h: ∀ r st',be st st'→gf κ a b r→Q r st'):wpS (model prog w) A E s (nL a b) Q st:=by
 unfold nL
 refine wpS_bind (wpS_lift (wpAny_rule ⟨rfl,wpS_bind (bI hb1 fun p0 e0 m0=>?_)⟩))
 have g1:G κ a b #[p0] 0 1:=((G.start κ b a).pushA e0 M.sb fun y hy=>by rw [← bp (κ:=κ) e0]; exact Int.le_trans M.first (M.sa.le_drop (Nat.le_refl 0) hy)).swap
 refine au (fun e=>wpS_pure (h _ st (.rfl' st) (M.doneB g1 (beq_iff_eq.mp e)))) fun e1=>au (fun e=>wpS_pure (h _ st (.rfl' st) (M.lastA g1 (beq_iff_eq.mp e)))) fun e2=>
  wpS_bind (wpS_get (wpS_bind (dT (ρ:=Nat) (h:=fun out ia ib r=>(out,ia,ib,r)) (fun j out ia ib st'=>be st st'∧Lo κ a b out ia ib (j+1)) (fun _ _ _ _=>False)
   (fun v st'=>be st st'∧gf κ a b v) ⟨.rfl' st,g1,Nat.lt_of_le_of_ne ha1 fun q=>e2 (beq_iff_eq.mpr q),Nat.lt_of_le_of_ne hb1 fun q=>e1 (beq_iff_eq.mpr q),Nat.le_refl 1⟩ ?step (fun out ia ib st' q=>q.2.over (Nat.le_succ _)) (fun v x st' q=>wpS_pure (h v st' q.1 q.2)) fun _ _ _ _ _ q=>q.elim)))
 clear h
 intro j out ia ib mg st₁ R _ J hD hN hY
 clear hN
 refine wpS_bind (dT (ρ:=Nat×Nat) (h:=fun out ia ib r=>(out,ia,ib,r)) (fun i out ia ib st'=>be st st'∧Lo κ a b out ia ib (j+1+i)) (fun out ia ib st'=>be st st'∧Lo κ a b out ia ib (j+1+1)) (fun v st'=>be st st'∧gf κ a b v) J ?istep
  (fun out ia ib st' q=>q.2.over (Nat.le_add_left _ _)) (fun v x st' q=>wpS_pure (hD _ _ _ q)) ?ipost)
 case istep=>
  clear hD hY J R
  intro i out ia ib r st' R _ J hD hK hY
  refine wpS_bind (bI J.2.hb fun pb eb mb=>wpS_bind (bI (Nat.lt_of_succ_lt J.2.ha) fun pa ea ma=>wpS_bind (hL pb pa (M.mb pb mb) (M.ma pa ma) st' _ (J.1.kind.trans hk) ?_)))
  refine au (fun hw=>wpS_bind (bI J.2.hb fun pb' eb' _=>?_)) fun hw=>wpS_bind (bI (Nat.lt_of_succ_lt J.2.ha) fun pa' ea' _=>?_)
  ·have g':=M.lessB J.2.g eb' ea (by rw [Option.some.inj (eb'.symm.trans eb)]; exact Int.le_of_lt (of_decide_eq_true hw))
   refine au (fun e=>wpS_pure (hD _ _ _ ⟨J.1,M.doneB g' (beq_iff_eq.mp e)⟩)) fun e=>?_
   have L':=J.2.moreB g' fun q=>e (beq_iff_eq.mpr q)
   exact au (fun _=>wpS_pure (hK _ _ _ _ _ ⟨J.1,L'.less (by exact li [j,i] [] [1,0,0] [1,0,2,0] rfl)⟩)) fun _=>wpS_pure (hY _ _ _ _ _ ⟨J.1,L'⟩)
  ·have g':=M.lessA J.2.g ea' eb (by rw [Option.some.inj (ea'.symm.trans ea)]; exact Int.not_lt.mp fun q=>hw (decide_eq_true q))
   refine au (fun e=>wpS_pure (hD _ _ _ ⟨J.1,M.lastA g' (beq_iff_eq.mp e)⟩)) fun e=>?_
   have L':=J.2.moreA g' fun q=>e (beq_iff_eq.mpr q)
   exact au (fun _=>wpS_pure (hK _ _ _ _ _ ⟨J.1,L'.less (by exact li [j,i] [] [1,0,0] [1,0,2,0] rfl)⟩)) fun _=>wpS_pure (hY _ _ _ _ _ ⟨J.1,L'⟩)
 clear J st₁
 intro out ia ib r st₁ J
 refine wpS_bind (wpS_lift (wpAny_rule ⟨rfl,wpS_bind (dT (ρ:=Nat×Nat×Nat) (h:=fun out ia ib r=>(out,ia,ib,r)) (fun i out ia ib st'=>be st st'∧Lo κ a b out ia ib (j+1+1)) (fun out ia ib st'=>be st st'∧Lo κ a b out ia ib (j+1+1)) (fun v st'=>be st st'∧gf κ a b v) J ?gstep
  (fun out ia ib st' q=>q) (fun v x st' q=>wpS_pure (hD _ _ _ q)) fun out ia ib r st' q=>wpS_bind (eP ⟨rfl,rfl,rfl,rfl⟩ fun st₂ hA=>wpS_pure (hY _ _ _ _ _ ⟨q.1.trans hA,q.2⟩)))⟩))
 clear hD hY J R st₁
 intro i out ia ib r st' R _ J hD hK hY
 extract_lets s1 out1 s2 ia1 s3 ib1 s4 mg1 s5 ac1 bc1 ib2 jp mg2
 suffices T: ∀ mg,wpS (model prog w) A E s (jp () mg) R st' from au (fun _=>T _) fun _=>T _
 intro mg
 refine wpS_bind (eP ⟨rfl,rfl,rfl,rfl⟩ fun st₂ hA=>wpS_bind (bI J.2.hb fun pb eb mb=>wpS_bind (cm (left:=false) (base:=ia) (n:=a.size - ia) (hint:=0) hL ((J.1.trans hA).kind.trans hk) (M.mb pb mb) (M.inA ia) (M.segA ia) (Nat.sub_pos_of_lt (Nat.lt_of_succ_lt J.2.ha)) fun k hk1 hk2 hk3=>?_)))
 have g2:=Dn M.sa M.sb J.2.g eb hk1 hk2 hk3
 replace hA:=J.1.trans hA
 clear hk2 hk3 mb
 dsimp -zeta only
 extract_lets ac2 jp2 out2 ia2
 have T: ∀ out ia,G κ a b out ia ib→ia+1 < a.size→(∀ y∈a.toList.drop ia,κ pb≤κ y)→j+1+1≤ia+ib→wpS (model prog w) A E s (jp2 () out ia) R st₂:=by
  intro out ia g h1 hgt h3
  refine wpS_bind (bI J.2.hb fun pb' eb' _=>?_)
  have g3:=(g.swap.pushA eb' M.sb (Option.some.inj (eb.symm.trans eb')▸hgt)).swap
  refine au (fun e=>wpS_pure (hD _ _ _ ⟨hA,M.doneB g3 (beq_iff_eq.mp e)⟩)) fun e=>?_
  have hib:ib+1 < b.size:=Nat.lt_of_le_of_ne J.2.hb fun q=>e (beq_iff_eq.mpr q)
  refine wpS_bind (bI (Nat.lt_of_succ_lt h1) fun pa ea ma=>wpS_bind (cm (left:=true) (base:=ib+1) (n:=b.size - (ib+1)) (hint:=0) hL (hA.kind.trans hk) (M.ma pa ma) (M.inB (ib+1)) (M.segB (ib+1)) (Nat.sub_pos_of_lt hib) fun k hk1 hk2 hk3=>?_))
  have g4:=Dm M.sa M.sb g3 ea hk1 hk2 hk3
  clear hk2 hk3 ma
  dsimp -zeta only
  extract_lets bc3 ia3 jp3 out3 ib3
  have T: ∀ out ib,G κ a b out ia ib→ib < b.size→(∀ y∈b.toList.drop ib,κ pa≤κ y)→j+1+1≤ia+ib→wpS (model prog w) A E s (jp3 () out ib) R st₂:=by
   intro out ib g h2 hlt h3
   refine wpS_bind (bI (Nat.lt_of_succ_lt h1) fun pa' ea' _=>?_)
   have g5:=g.pushA ea' M.sa (Option.some.inj (ea.symm.trans ea')▸hlt)
   refine au (fun e=>wpS_pure (hD _ _ _ ⟨hA,M.lastA g5 (beq_iff_eq.mp e)⟩)) fun e=>?_
   have L':Lo κ a b (out.push pa') (ia+1) ib (j+1+1):=⟨g5,Nat.lt_of_le_of_ne h1 fun q=>e (beq_iff_eq.mpr q),h2,Nat.le_trans h3 (by rw [Nat.add_right_comm]; exact Nat.le_succ _)⟩
   exact au (fun _=>wpS_pure (hK _ _ _ _ _ ⟨hA,L'⟩)) fun _=>wpS_pure (hY _ _ _ _ _ ⟨hA,L'⟩)
  refine au (fun _=>au (fun e=>wpS_pure (hD _ _ _ ⟨hA,M.doneB g4.1 (beq_iff_eq.mp e)⟩)) fun e=>T _ _ g4.1 (Nat.lt_of_le_of_ne (fk hk1 (Nat.le_of_lt hib)) fun q=>e (beq_iff_eq.mpr q)) g4.2 (Nat.le_trans h3 (Nat.add_le_add_left (Nat.le_trans (Nat.le_succ _) (Nat.le_add_right _ _)) _))) fun hk0=>T _ _ g3 hib ?_ (Nat.le_succ_of_le h3)
  obtain rfl:k=0:=Nat.eq_zero_of_not_pos hk0
  exact g4.2
 refine au (fun _=>au (fun e=>wpS_pure (hD _ _ _ ⟨hA,M.lastA g2.1 (beq_iff_eq.mp e)⟩)) fun e=>au (fun e=>wpS_pure (hD _ _ _ ⟨hA,M.doneA g2.1 (beq_iff_eq.mp e)⟩)) fun e'=>
  T _ _ g2.1 (Nat.lt_of_le_of_ne (Nat.lt_of_le_of_ne (fk hk1 (Nat.le_of_lt (Nat.lt_of_succ_lt J.2.ha))) fun q=>e' (beq_iff_eq.mpr q)) fun q=>e (beq_iff_eq.mpr q)) g2.2 (Nat.le_trans J.2.hj (Nat.add_le_add_right (Nat.le_add_right _ _) _))) fun hk0=>T _ _ J.2.g J.2.ha ?_ J.2.hj
 obtain rfl:k=0:=Nat.eq_zero_of_not_pos hk0
 exact g2.2
end
end
noncomputable section
open PySem PyProof.Rows
noncomputable def nM:Array Keyed→Array Keyed→StateT SortSt Sem (Array Keyed):=sortPriv% PySem.Builtin.mergeHi
section
variable {prog:Program} {w:World} {A:Around} {E:Value→Shared→Prop} {s:Shared} {kd:SortKind} {κ:Keyed→Int} {a₀:Array Keyed}
abbrev Hh (κ:Keyed→Int) (a b out:Array Keyed) (na nb:Nat):Prop:=G (fun x=>-κ x) a.reverse b.reverse out (a.size - na) (b.size - nb)
theorem yj {a:Array Keyed} {na:Nat} (h0:0 < na) (hn:na≤a.size):a.reverse[a.size - na]?= a[na - 1]?:=by
 rw [Array.getElem?_reverse (by exact lin [_,_,na] [(1,.a (.n 0) (.n 1),.v 2),(1,.a (.v 0) (.v 2),.v 1)] 1 (.a (.v 0) (.n 1)) (.v 1) rfl h0 (l_d (hn)))]; congr 1; exact l_a (li [_,_,na,_,_,_] [([3],[2,0]),([4,0],[5]),([5],[6,3]),([1,6],[4])] [1] [2] rfl (l_g _ _) (l_d (lin [_,na] [(1,.a (.n 0) (.n 1),.v 1),(1,.v 1,.v 0)] 1 (.n 1) (.v 0) rfl h0 hn)) (l_g _ _) (l_d (lin [_,_,na,_] [(1,.a (.n 0) (.n 1),.v 2),(1,.v 3,.a (.v 1) (.n 1)),(1,.a (.v 0) (.v 2),.v 3)] 1 (.v 0) (.v 1) rfl h0 (l_g _ _) (l_d (hn))))) (li [_,_,na,_,_,_] [([1,0],[3]),([4],[5,0]),([6,3],[4]),([5],[2,6])] [1] [2] rfl (l_d (lin [na] [(1,.a (.n 0) (.n 1),.v 0)] 1 (.n 1) (.v 0) rfl h0)) (l_g _ _) (l_d (hn)) (l_g _ _))
theorem wn {a:Array Keyed} {i:Nat} (h:i < a.size):kAt (fun x=>-κ x) a.reverse i= -kAt κ a (a.size - 1 - i):=by
 rw [kAt,kAt,Array.getElem?_reverse h,Array.getElem?_eq_getElem (show a.size - 1 - i < a.size by exact li [_,_,_,i] [([3,0],[2]),([1,4],[3])] [1,0] [2] rfl (l_d (li [_,i] [([2,0],[1])] [0] [1] rfl h)) (l_d (li [i,_,_] [([1,0],[3]),([3],[2,0])] [1] [2] rfl h (l_g _ _))))]; rfl
theorem jJ {a:Array Keyed} (h:Seg κ a 0 a.size):Seg (fun x=>-κ x) a.reverse 0 a.reverse.size:=fun i j _ hij hj=>by
 rw [Array.size_reverse] at hj
 rw [wn (Nat.lt_of_le_of_lt hij hj),wn hj]
 exact Int.neg_le_neg (h _ _ (Nat.zero_le _) (by exact li [_,_,i,j,_] [([3],[4]),([1,4],[5]),([5],[2,3])] [1] [2] rfl hij (l_d (li [j,_,_] [([1,0],[3]),([3],[2,0])] [1] [2] rfl hj (l_g _ _))) (l_g _ _)) (by exact li [_,_,_,i] [([3,0],[2]),([1,4],[3])] [1,0] [2] rfl (l_d (li [_,j] [([2,0],[1])] [0] [1] rfl hj)) (l_d (li [i,_,j,_] [([1],[3]),([3,0],[4]),([4],[2,0])] [1] [2] rfl hij hj (l_g _ _)))))
theorem gw {b:Array Keyed} {nb:Nat} (hn:nb≤b.size):b.reverse.toList.drop (b.size - nb)=(b.toList.take nb).reverse:=by
 rw [Array.toList_reverse,List.drop_reverse]; congr 2; rw [Array.length_toList]; exact l_a (li [_,nb,_,_] [([3],[4,2]),([1,4],[3])] [1] [2] rfl (l_g _ _) (l_d (li [_,_,nb] [([1,3],[2])] [1] [2] rfl (l_d (hn))))) (li [nb,_,_,_] [([3,1],[4]),([4],[2,3])] [1] [2] rfl (l_d (hn)) (l_g _ _))
theorem qC {a:Array Keyed} {i n:Nat} (hi:i≤n) (hn:n≤a.size):a.reverse.extract (a.size - n) (a.size - i)=(a.extract i n).reverse:=by
 apply Array.toList_inj.mp
 rw [Array.toList_extract,Array.toList_reverse,Array.toList_reverse,Array.toList_extract,List.extract_eq_take_drop,List.extract_eq_take_drop,List.drop_reverse,List.take_reverse,List.length_take,Array.length_toList,List.drop_take,show min (a.size - (a.size - n)) a.size - (a.size - i - (a.size - n))=i by exact l_a (li [_,i,_,_,_,_,_,_] [([3],[4,2]),([4],[5,6]),([7,6],[3]),([8],[7]),([1,5],[8])] [1] [2] rfl (l_g _ _) (l_g _ _) (l_d (li [_,_,_,i,_] [([3,4],[2]),([5,1],[3])] [1] [2] rfl (l_d (li [i,_,n] [([1],[3]),([3],[2])] [1] [2] rfl hi hn)) (l_d (li [_,_,i,n,_] [([3],[4]),([5],[2,3]),([1,4],[5])] [1] [2] rfl hi (l_g _ _) (l_d (hn)))))) (Nat.min_le_left _ _) (l_d (li [_,_,_,i,_,_,_] [([3,4],[5]),([1,6],[3]),([5],[7,6]),([7],[2])] [1] [2] rfl (l_d (li [i,_,n] [([1],[3]),([3],[2])] [1] [2] rfl hi hn)) (l_d (li [_,_,i,n,_] [([3],[4]),([5],[2,3]),([1,4],[5])] [1] [2] rfl hi (l_g _ _) (l_d (hn)))) (l_g _ _) (l_m (li [_,_,_] [([1,3],[2])] [1] [2] rfl (l_d (li [_,_,_,i,_] [([3,4],[2]),([5,1],[3])] [1] [2] rfl (l_d (li [i,_,n] [([1],[3]),([3],[2])] [1] [2] rfl hi hn)) (l_d (li [_,_,i,n,_] [([3],[4]),([5],[2,3]),([1,4],[5])] [1] [2] rfl hi (l_g _ _) (l_d (hn))))))))))) (li [i,_,_,_,_,_,_,_] [([3,1],[4]),([5,6],[3]),([4],[7,6]),([7],[8]),([8],[2,5])] [1] [2] rfl (l_d (li [i,_,n] [([1],[3]),([3],[2])] [1] [2] rfl hi hn)) (l_d (li [_,_,i,n,_] [([3],[4]),([5],[2,3]),([1,4],[5])] [1] [2] rfl hi (l_g _ _) (l_d (hn)))) (l_g _ _) (l_m (li [_,_,_] [([1,3],[2])] [1] [2] rfl (l_d (li [_,_,_,i,_] [([3,4],[2]),([5,1],[3])] [1] [2] rfl (l_d (li [i,_,n] [([1],[3]),([3],[2])] [1] [2] rfl hi hn)) (l_d (li [_,_,i,n,_] [([3],[4]),([5],[2,3]),([1,4],[5])] [1] [2] rfl hi (l_g _ _) (l_d (hn)))))))) (l_g _ _)),show a.size - (a.size - n) - i=n - i by exact l_a (li [_,_,n,i,_,_,_] [([3],[2,4]),([5],[6,3]),([7,6],[5]),([1,4],[7])] [1] [2] rfl (l_g _ _) (l_g _ _) (l_d (li [_,_,n] [([1,3],[2])] [1] [2] rfl (l_d (hn)))) (l_d (li [i,_,n,_,_] [([1],[3]),([4,3],[5]),([5],[2,4])] [1] [2] rfl hi (l_d (hn)) (l_g _ _)))) (li [_,_,i,n,_,_,_] [([1,3],[4]),([5,4],[6]),([6],[7,5]),([7],[2,3])] [1] [2] rfl (l_d (hi)) (l_d (hn)) (l_g _ _) (l_g _ _))]
theorem Hh.pushA {a b out:Array Keyed} {na nb:Nat} {p:Keyed} (g:Hh κ a b out na nb) (h0:0 < na) (hn:na≤a.size) (hb:nb≤b.size) (e:a[na - 1]?= some p) (sa:Seg κ a 0 a.size) (hp: ∀ y∈b.toList.take nb,κ y≤κ p):Hh κ a b (out.push p) (na - 1) nb:=by
 have:=G.pushA g ((yj h0 hn).trans e) (jJ sa) fun y hy=>Int.neg_le_neg (hp y (by rw [gw hb] at hy; exact List.mem_reverse.mp hy))
 rwa [show a.size - na+1=a.size - (na - 1) by exact l_a (li [_,_,na,_,_] [([1,3],[4]),([5,0],[3]),([4],[2,5])] [1,0] [2] rfl (l_d (hn)) (l_d (lin [na] [(1,.a (.n 0) (.n 1),.v 0)] 1 (.n 1) (.v 0) rfl h0)) (l_g _ _)) (li [_,_,_,na,_] [([3],[2,4]),([4],[5,0]),([1,5],[3])] [1] [2,0] rfl (l_g _ _) (l_g _ _) (l_d (li [_,_,na] [([3],[2]),([1,0],[3])] [1] [2] rfl hn (l_d (lin [na] [(1,.a (.n 0) (.n 1),.v 0)] 1 (.n 1) (.v 0) rfl h0)))))] at this
theorem Hh.bulkA {a b out:Array Keyed} {na nb i:Nat} (g:Hh κ a b out na nb) (hi:i≤na) (hn:na≤a.size) (hb:nb≤b.size) (sa:Seg κ a 0 a.size) (hp: ∀ k,i≤k→k < na→∀ y∈b.toList.take nb,κ y≤kAt κ a k):Hh κ a b (out++(a.extract i na).reverse) i nb:=by
 have:=G.bulkA g (jJ sa) (na - i) (by rw [Array.size_reverse]; exact li [_,_,_,na,i] [([1,4],[3]),([2,5],[4])] [1,2] [3] rfl (l_d (hn)) (l_d (hi))) fun k hk y hy=>by
  rw [wn (by exact li [_,k,_,_,i,na] [([2,0],[4]),([4,5],[6]),([1,6],[3])] [1,2,0] [3] rfl hk (l_d (hi)) (l_d (hn)))]
  exact Int.neg_le_neg (hp _ (by exact lin [i,_,k,_,na,_,_,_] [(1,.a (.v 2) (.n 1),.v 3),(1,.a (.v 3) (.v 0),.v 4),(1,.v 5,.a (.v 6) (.n 1)),(1,.a (.v 7) (.v 4),.v 5),(1,.v 6,.a (.v 1) (.a (.v 7) (.v 2)))] 1 (.v 0) (.v 1) rfl hk (l_d (hi)) (l_g _ _) (l_d (hn)) (l_g _ _)) (by exact lin [_,na,_,_,_,k] [(1,.a (.v 2) (.n 1),.v 3),(1,.v 3,.a (.v 4) (.v 1)),(1,.a (.v 0) (.a (.v 4) (.v 5)),.v 2)] 1 (.a (.v 0) (.n 1)) (.v 1) rfl (l_d (li [_,na,k,_,i] [([2],[1]),([3,0],[4]),([4,5],[2])] [0] [1] rfl hn hk (l_d (hi)))) (l_g _ _) (l_d (li [_,k,_,_,i,na,_] [([2,0],[4]),([4,5],[6]),([7],[3,0]),([1,6],[7])] [1,2] [3] rfl hk (l_d (hi)) (l_g _ _) (l_d (hn))))) y (by rw [gw hb] at hy; exact List.mem_reverse.mp hy))
 rwa [show a.size - na+(na - i)=a.size - i by exact l_a (li [_,_,_,na,_,i] [([1,4],[5]),([2,6],[4]),([5],[3,6])] [1,2] [3] rfl (l_d (hn)) (l_d (hi)) (l_g _ _)) (li [_,_,_,_,na,i] [([4],[2,5]),([5],[3,6]),([1,6],[4])] [1] [2,3] rfl (l_g _ _) (l_g _ _) (l_d (li [i,_,na] [([1],[3]),([3],[2])] [1] [2] rfl hi hn))),qC hi hn] at this
theorem gf.rev {a b r:Array Keyed} (h:gf (fun x=>-κ x) a.reverse b.reverse r):gf κ a b r.reverse:=by
 refine ⟨?_,?_⟩
 ·have:=h.1
  rw [Array.toList_reverse,Array.toList_reverse] at this
  rw [Array.toList_reverse]
  exact (List.reverse_perm _).trans (this.trans ((List.reverse_perm _).append (List.reverse_perm _)))
 ·rw [Srt,Array.toList_reverse,List.pairwise_reverse]
  exact h.2.imp fun q=>Int.neg_le_neg_iff.mp q
theorem Hh.fin {a b out:Array Keyed} {na nb:Nat} (g:Hh κ a b out na nb) (ha:na≤a.size) (hb:nb≤b.size) (sa:Seg κ a 0 a.size) (sb:Seg κ b 0 b.size) (h: ∀ x∈a.toList.take na,∀ y∈b.toList.take nb,κ x≤κ y):gf κ a b (a.extract 0 na++b.extract 0 nb++out.reverse):=by
 have:=(G.fin g.swap (jJ sb) (jJ sa) fun x hx y hy=>Int.neg_le_neg (h y (by rw [gw ha] at hy; exact List.mem_reverse.mp hy) x (by rw [gw hb] at hx; exact List.mem_reverse.mp hx))).swap.rev
 rw [Array.size_reverse,Array.size_reverse] at this
 have e1:=qC (a:=a) (Nat.zero_le na) ha
 have e2:=qC (a:=b) (Nat.zero_le nb) hb
 rw [Nat.sub_zero] at e1 e2
 rwa [e1,e2,Array.reverse_append,Array.reverse_append,Array.reverse_reverse,Array.reverse_reverse,← Array.append_assoc] at this
theorem jE {a:Array Keyed} {n:Nat} {p:Keyed} (sa:Seg κ a 0 a.size) (h0:0 < n) (e:a[n - 1]?= some p) {y:Keyed} (hy:y∈a.toList.take n):κ y≤κ p:=by
 obtain ⟨i,hi,hq⟩:=List.mem_take_iff_getElem.mp hy
 have h1:=(Array.getElem?_eq_some_iff.mp e).1
 rw [← bp (κ:=κ) e,← hq]
 have h2:i < a.size:=by rw [Array.length_toList] at hi; exact li [i,_,_,_,n] [([1,0],[3]),([4,0],[2]),([5],[4,0]),([3],[5])] [1,0] [2] rfl (by assumption) h1 (l_g _ _) (Nat.min_le_left _ _)
 have:=sa i (n - 1) (Nat.zero_le _) (by exact li [i,_,_,n] [([1,0],[3]),([4],[2,0]),([3],[4])] [1] [2] rfl hi (l_g _ _) (Nat.min_le_left _ _)) h1
 rwa [bp (κ:=κ) (Array.getElem?_eq_getElem h2)] at this
theorem jF {a:Array Keyed} {n:Nat} {y:Keyed} (hy:y∈a.toList.take n): ∃ i,i < n∧kAt κ a i=κ y:=by
 obtain ⟨i,hi,hq⟩:=List.mem_take_iff_getElem.mp hy
 rw [Array.length_toList] at hi
 refine ⟨i,by exact li [i,n,_] [([1,0],[3]),([3],[2])] [1,0] [2] rfl (by assumption) (Nat.min_le_left _ _),?_⟩
 rw [bp (κ:=κ) (Array.getElem?_eq_getElem (show i < a.size by exact li [i,_,_] [([1,0],[3]),([3],[2])] [1,0] [2] rfl hi (Nat.min_le_right _ _))),← hq]; rfl
structure Hi (κ:Keyed→Int) (a b out:Array Keyed) (na nb j:Nat):Prop where
 g:Hh κ a b out na nb
 a0:0 < na
 b0:1 < nb
 an:na≤a.size
 bn:nb≤b.size
 hj:j+(na+nb)≤a.size+b.size
theorem Hi.less {a b out:Array Keyed} {na nb j j':Nat} (L:Hi κ a b out na nb j') (h:j≤j'):Hi κ a b out na nb j:=⟨L.g,L.a0,L.b0,L.an,L.bn,Nat.le_trans (Nat.add_le_add_right h _) L.hj⟩
theorem Hi.over {a b out:Array Keyed} {na nb j:Nat} {P:Prop} (L:Hi κ a b out na nb j) (h:a.size+b.size≤j):P:=by have:=L.a0; have:=L.hj; exact (l_z (lin [_,_,j,na,nb] [(1,.a (.v 0) (.v 1),.v 2),(1,.a (.n 0) (.n 1),.v 3),(1,.a (.v 2) (.a (.v 3) (.v 4)),.a (.v 0) (.v 1))] 0 (.n 1) (.n 0) rfl h (by assumption) this)).elim
theorem Hi.moreA {a b out out':Array Keyed} {na nb j:Nat} (L:Hi κ a b out na nb j) (g:Hh κ a b out' (na - 1) nb) (e: ¬ na - 1=0):Hi κ a b out' (na - 1) nb (j+1):=⟨g,Nat.pos_of_ne_zero e,L.b0,Nat.le_trans (Nat.sub_le _ _) L.an,L.bn,by have:=L.hj; have:=L.a0; exact lin [j,_,nb,_,_,na] [(1,.a (.v 0) (.a (.v 5) (.v 2)),.a (.v 3) (.v 4)),(1,.a (.v 1) (.n 1),.v 5)] 1 (.a (.a (.v 0) (.n 1)) (.a (.v 1) (.v 2))) (.a (.v 3) (.v 4)) rfl (by assumption) (l_d (lin [na] [(1,.a (.n 0) (.n 1),.v 0)] 1 (.n 1) (.v 0) rfl this))⟩
theorem Hi.moreB {a b out out':Array Keyed} {na nb j:Nat} (L:Hi κ a b out na nb j) (g:Hh κ a b out' na (nb - 1)) (e: ¬ nb - 1=1):Hi κ a b out' na (nb - 1) (j+1):=⟨g,L.a0,by have:=L.b0; exact (Nat.lt_of_le_of_ne (li [_,nb] [([0,0],[2]),([2],[1,0])] [0] [1] rfl this (l_g _ _)) (Ne.symm e)),L.an,Nat.le_trans (Nat.sub_le _ _) L.bn,by have:=L.hj; have:=L.b0; exact lin [j,na,_,_,_,nb] [(1,.a (.v 0) (.a (.v 1) (.v 5)),.a (.v 3) (.v 4)),(1,.a (.v 2) (.n 1),.v 5)] 1 (.a (.a (.v 0) (.n 1)) (.a (.v 1) (.v 2))) (.a (.v 3) (.v 4)) rfl (by assumption) (l_d (li [nb] [([0,0],[1])] [0] [1] rfl this))⟩
theorem Mrg.endA {a b out:Array Keyed} {na nb:Nat} (M:Mrg kd κ a₀ a b) (g:Hh κ a b out na nb) (hb:nb≤b.size) (e:na=0):gf κ a b (a.extract 0 na++b.extract 0 nb++out.reverse):=
 g.fin (by exact li [na,_] [([1],[])] [1] [2] rfl (l_e e)) hb M.sa M.sb fun x hx=>by rw [e,List.take_zero] at hx; cases hx
theorem Mrg.endB {a b out:Array Keyed} {na nb:Nat} (M:Mrg kd κ a₀ a b) (g:Hh κ a b out na nb) (ha:na≤a.size) (e:nb=0):gf κ a b (a.extract 0 na++b.extract 0 nb++out.reverse):=
 g.fin ha (by exact li [nb,_] [([1],[])] [1] [2] rfl (l_e e)) M.sa M.sb fun x hx y hy=>by rw [e,List.take_zero] at hy; cases hy
theorem Mrg.oneB {a b out:Array Keyed} {na nb:Nat} (M:Mrg kd κ a₀ a b) (g:Hh κ a b out na nb) (ha:na≤a.size) (hb:nb≤b.size) (e:nb=1):gf κ a b (b.extract 0 nb++a.extract 0 na++out.reverse):=
 (Hh.fin g.swap hb ha M.sb M.sa fun x hx y hy=>by
  obtain ⟨i,h1,h2⟩:=jF (κ:=κ) hx
  obtain ⟨j,h3,h4⟩:=jF (κ:=κ) hy
  obtain rfl:i=0:=by exact l_a (li [i,nb] [([2],[0]),([1,0],[2])] [1] [] rfl (l_e e) h1) (li [i] [] [] [1] rfl )
  rw [← h2,← h4]
  exact Int.le_trans M.first (M.sa 0 j (Nat.le_refl 0) (Nat.zero_le _) (by exact li [j,_,na] [([3],[2]),([1,0],[3])] [1,0] [2] rfl ha h3))).swap
theorem hiA {a b out:Array Keyed} {na nb k:Nat} {pb:Keyed} (M:Mrg kd κ a₀ a b) (g:Hh κ a b out na nb) (h0:0 < nb) (ha:na≤a.size) (hb:nb≤b.size) (eb:b[nb - 1]?= some pb) (hk1:k≤na) (hk2: ∀ i,i < k→bz κ false pb a 0 i=true) (hk3: ∀ i,k≤i→i < na→bz κ false pb a 0 i=false):
  Hh κ a b (out++(a.extract k na).reverse) k nb∧∀ y∈a.toList.take k,κ y≤κ pb:=by
 refine ⟨g.bulkA hk1 ha hb M.sa fun i h1 h2 y hy=>?_,fun y hy=>?_⟩
 ·have:=jE M.sb h0 eb hy
  have q:=hk3 i h1 h2
  simp only [bz,Bool.false_eq_true,if_false,decide_eq_false_iff_not,Nat.zero_add] at q
  exact (Int.le_of_lt (Int.lt_of_le_of_lt this (Int.not_le.mp q)))
 ·obtain ⟨i,h1,h2⟩:=jF (κ:=κ) hy
  have q:=hk2 i h1
  simp only [bz,Bool.false_eq_true,if_false,decide_eq_true_eq,Nat.zero_add] at q
  exact (Int.le_trans (Int.le_of_eq (Eq.symm h2)) q)
theorem hiB {a b out:Array Keyed} {na nb k:Nat} {pa:Keyed} (M:Mrg kd κ a₀ a b) (g:Hh κ a b out na nb) (h0:0 < na) (ha:na≤a.size) (hb:nb≤b.size) (ea:a[na - 1]?= some pa) (hk1:k≤nb) (hk2: ∀ i,i < k→bz κ true pa b 0 i=true) (hk3: ∀ i,k≤i→i < nb→bz κ true pa b 0 i=false):
  Hh κ a b (out++(b.extract k nb).reverse) na k∧∀ y∈b.toList.take k,κ y≤κ pa:=by
 refine ⟨(Hh.bulkA g.swap hk1 hb ha M.sb fun i h1 h2 y hy=>?_).swap,fun y hy=>?_⟩
 ·have:=jE M.sa h0 ea hy
  have q:=hk3 i h1 h2
  simp only [bz,if_true,decide_eq_false_iff_not,Nat.zero_add] at q
  exact (Int.le_trans this (Int.not_lt.mp q))
 ·obtain ⟨i,h1,h2⟩:=jF (κ:=κ) hy
  have q:=hk2 i h1
  simp only [bz,if_true,decide_eq_true_eq,Nat.zero_add] at q
  exact (Int.le_of_lt (Int.lt_of_le_of_lt (Int.le_of_eq (Eq.symm h2)) q))
theorem Hh.start (κ:Keyed→Int) (a b:Array Keyed):Hh κ a b #[] a.size b.size:=by rw [Hh,Nat.sub_self,Nat.sub_self]; exact G.start ..
theorem Mrg.hiLessA {a b out:Array Keyed} {na nb j:Nat} {pa pb:Keyed} (M:Mrg kd κ a₀ a b) (L:Hi κ a b out na nb j) (ea:a[na - 1]?= some pa) (eb:b[nb - 1]?= some pb) (h:κ pb≤κ pa):Hh κ a b (out.push pa) (na - 1) nb:=
 L.g.pushA L.a0 L.an L.bn ea M.sa fun _ hy=>Int.le_trans (jE M.sb (Nat.lt_trans Nat.zero_lt_one L.b0) eb hy) h
theorem Mrg.hiLessB {a b out:Array Keyed} {na nb j:Nat} {pa pb:Keyed} (M:Mrg kd κ a₀ a b) (L:Hi κ a b out na nb j) (eb:b[nb - 1]?= some pb) (ea:a[na - 1]?= some pa) (h:κ pa≤κ pb):Hh κ a b (out.push pb) na (nb - 1):=
 (Hh.pushA L.g.swap (Nat.lt_trans Nat.zero_lt_one L.b0) L.bn L.an eb M.sb fun _ hy=>Int.le_trans (jE M.sa L.a0 ea hy) h).swap
theorem cq {i n:Nat} (h0:0 < i) (h:i≤n):i - 1 < n:=by exact li [_,n,i] [([3],[2]),([1,0],[3])] [1,0] [2] rfl h (l_d (lin [i] [(1,.a (.n 0) (.n 1),.v 0)] 1 (.n 1) (.v 0) rfl h0))
theorem Mrg.inA' {a b:Array Keyed} {n:Nat} (M:Mrg kd κ a₀ a b) (h:n≤a.size): ∀ i,i < n→∃ p,a[0+i]?= some p∧p∈a₀.toList:=fun i hi=>M.inA 0 i (Nat.lt_of_lt_of_le hi h)
theorem Mrg.inB' {a b:Array Keyed} {n:Nat} (M:Mrg kd κ a₀ a b) (h:n≤b.size): ∀ i,i < n→∃ p,b[0+i]?= some p∧p∈a₀.toList:=fun i hi=>M.inB 0 i (Nat.lt_of_lt_of_le hi h)
theorem tV {a:Array Keyed} {n:Nat} (sa:Seg κ a 0 a.size) (h:n≤a.size):Seg κ a 0 (0+n):=fun i j h1 h2 h3=>sa i j h1 h2 (Nat.lt_of_lt_of_le h3 (by rw [Nat.zero_add]; exact h))
theorem xC {n:Nat} (h:1 < n) (e: ¬ n - 1=1):1 < n - 1:=by exact (Nat.lt_of_le_of_ne (li [_,n] [([0,0],[2]),([2],[1,0])] [0] [1] rfl h (l_g _ _)) (Ne.symm e))
theorem uy {k n:Nat} (h:k≤n) (e: ¬ n - k > 0):k=n:=by exact l_a (h) (li [n,k,_] [([3],[]),([1],[3,2])] [1] [2] rfl (l_t e) (l_g _ _))
theorem uR {x y z n:Nat} (h:x+(y+z)≤n):x+(y+(z - 1))≤n:=by exact lin [x,y,_,n,z] [(1,.a (.v 0) (.a (.v 1) (.v 4)),.v 3),(1,.v 2,.v 4)] 1 (.a (.v 0) (.a (.v 1) (.v 2))) (.v 3) rfl h (Nat.sub_le _ _)
theorem lL {a b:Array Keyed} {st:SortSt} {Q:Array Keyed→SortSt→Prop} (hL:pQ prog w A E s kd κ a₀) (hk:kindOf st=kd) (M:Mrg kd κ a₀ a b) (ha1:1≤a.size) (hb1:1≤b.size)
  (h: ∀ r st',be st st'→gf κ a b r→Q r st'):wpS (model prog w) A E s (nM a b) Q st:=by
 unfold nM
 refine wpS_bind (wpS_lift (wpAny_rule ⟨rfl,wpS_bind (bI (cq ha1 (Nat.le_refl _)) fun p0 e0 m0=>?_)⟩))
 have g1:Hh κ a b #[p0] (a.size - 1) b.size:=(Hh.start κ a b).pushA ha1 (Nat.le_refl _) (Nat.le_refl _) e0 M.sa fun y hy=>by have:=M.last y (List.mem_of_mem_take hy); rwa [bp (κ:=κ) e0] at this
 refine au (fun e=>wpS_pure (h _ st (.rfl' st) (M.endA g1 (Nat.le_refl _) (beq_iff_eq.mp e)))) fun e1=>au (fun e=>wpS_pure (h _ st (.rfl' st) (M.oneB g1 (Nat.sub_le _ _) (Nat.le_refl _) (beq_iff_eq.mp e)))) fun e2=>
  wpS_bind (wpS_get (wpS_bind (dT (ρ:=Nat) (h:=fun out na nb r=>(na,nb,out,r)) (fun j out na nb st'=>be st st'∧Hi κ a b out na nb (j+1)) (fun _ _ _ _=>False)
   (fun v st'=>be st st'∧gf κ a b v) ⟨.rfl' st,g1,Nat.pos_of_ne_zero fun q=>e1 (beq_iff_eq.mpr q),Nat.lt_of_le_of_ne hb1 fun q=>e2 (beq_iff_eq.mpr q.symm),Nat.sub_le _ _,Nat.le_refl _,by exact lin [_,_,_] [(1,.a (.v 0) (.n 1),.v 2)] 1 (.a (.a (.n 0) (.n 1)) (.a (.v 0) (.v 1))) (.a (.v 2) (.v 1)) rfl (l_d (ha1))⟩ ?step (fun out na nb st' q=>q.2.over (Nat.le_succ _)) (fun v x st' q=>wpS_pure (h v st' q.1 q.2)) fun _ _ _ _ _ q=>q.elim)))
 clear h
 intro j out na nb mg st₁ R _ J hD hN hY
 clear hN
 refine wpS_bind (dT (ρ:=Nat×Nat) (h:=fun out na nb r=>(na,nb,out,r)) (fun i out na nb st'=>be st st'∧Hi κ a b out na nb (j+1+i)) (fun out na nb st'=>be st st'∧Hi κ a b out na nb (j+1+1)) (fun v st'=>be st st'∧gf κ a b v) J ?istep
  (fun out na nb st' q=>q.2.over (Nat.le_add_left _ _)) (fun v x st' q=>wpS_pure (hD _ _ _ q)) ?ipost)
 case istep=>
  clear hD hY J R
  intro i out na nb r st' R _ J hD hK hY
  have b0:0 < nb:=Nat.lt_trans Nat.zero_lt_one J.2.b0
  refine wpS_bind (bI (cq b0 J.2.bn) fun pb eb mb=>wpS_bind (bI (cq J.2.a0 J.2.an) fun pa ea ma=>wpS_bind (hL pb pa (M.mb pb mb) (M.ma pa ma) st' _ (J.1.kind.trans hk) ?_)))
  refine au (fun hw=>wpS_bind (bI (cq J.2.a0 J.2.an) fun pa' ea' _=>?_)) fun hw=>wpS_bind (bI (cq b0 J.2.bn) fun pb' eb' _=>?_)
  ·have g':=M.hiLessA J.2 ea' eb (by rw [Option.some.inj (ea'.symm.trans ea)]; exact Int.le_of_lt (of_decide_eq_true hw))
   refine au (fun e=>wpS_pure (hD _ _ _ ⟨J.1,M.endA g' J.2.bn (beq_iff_eq.mp e)⟩)) fun e=>?_
   have L':=J.2.moreA g' fun q=>e (beq_iff_eq.mpr q)
   exact au (fun _=>wpS_pure (hK _ _ _ _ _ ⟨J.1,L'.less (by exact li [j,i] [] [1,0,0] [1,0,2,0] rfl)⟩)) fun _=>wpS_pure (hY _ _ _ _ _ ⟨J.1,L'⟩)
  ·have g':=M.hiLessB J.2 eb' ea (by rw [Option.some.inj (eb'.symm.trans eb)]; exact Int.not_lt.mp fun q=>hw (decide_eq_true q))
   refine au (fun e=>wpS_pure (hD _ _ _ ⟨J.1,M.oneB g' J.2.an (Nat.le_trans (Nat.sub_le _ _) J.2.bn) (beq_iff_eq.mp e)⟩)) fun e=>?_
   have L':=J.2.moreB g' fun q=>e (beq_iff_eq.mpr q)
   exact au (fun _=>wpS_pure (hK _ _ _ _ _ ⟨J.1,L'.less (by exact li [j,i] [] [1,0,0] [1,0,2,0] rfl)⟩)) fun _=>wpS_pure (hY _ _ _ _ _ ⟨J.1,L'⟩)
 clear J st₁
 intro out na nb r st₁ J
 refine wpS_bind (wpS_lift (wpAny_rule ⟨rfl,wpS_bind (dT (ρ:=Nat×Nat×Nat) (h:=fun out na nb r=>(na,nb,out,r)) (fun i out na nb st'=>be st st'∧Hi κ a b out na nb (j+1+1)) (fun out na nb st'=>be st st'∧Hi κ a b out na nb (j+1+1)) (fun v st'=>be st st'∧gf κ a b v) J ?gstep
  (fun out na nb st' q=>q) (fun v x st' q=>wpS_pure (hD _ _ _ q)) fun out na nb r st' q=>wpS_bind (eP ⟨rfl,rfl,rfl,rfl⟩ fun st₂ hA=>wpS_pure (hY _ _ _ _ _ ⟨q.1.trans hA,q.2⟩)))⟩))
 clear hD hY J R st₁
 intro i out na nb r st' R _ J hD hK hY
 have b0:0 < nb:=Nat.lt_trans Nat.zero_lt_one J.2.b0
 extract_lets s1 na1 s2 nb1 s3 out1 s4 mg1 s5 ac1 bc1 nb2 jp mg2
 suffices T: ∀ mg,wpS (model prog w) A E s (jp () mg) R st' from au (fun _=>T _) fun _=>T _
 intro mg
 refine wpS_bind (eP ⟨rfl,rfl,rfl,rfl⟩ fun st₂ hA=>wpS_bind (bI (cq b0 J.2.bn) fun pb eb mb=>wpS_bind (cm (left:=false) (base:=0) (n:=na) (hint:=na - 1) hL ((J.1.trans hA).kind.trans hk) (M.mb pb mb) (M.inA' J.2.an) (tV M.sa J.2.an) (cq J.2.a0 (Nat.le_refl _)) fun k hk1 hk2 hk3=>?_)))
 have g2:=hiA M J.2.g b0 J.2.an J.2.bn eb hk1 hk2 hk3
 replace hA:=J.1.trans hA
 clear hk2 hk3 mb
 dsimp -zeta only
 extract_lets k2 ac2 jp2 out2 na2
 have T: ∀ na out,Hh κ a b out na nb→0 < na→na≤a.size→(∀ y∈a.toList.take na,κ y≤κ pb)→j+1+1+(na+nb)≤a.size+b.size→wpS (model prog w) A E s (jp2 () na out) R st₂:=by
  intro na out g h0 hn hle h3
  refine wpS_bind (bI (cq b0 J.2.bn) fun pb' eb' _=>?_)
  have g3:Hh κ a b (out.push pb') na (nb - 1):=(Hh.pushA g.swap b0 J.2.bn hn eb' M.sb (Option.some.inj (eb.symm.trans eb')▸hle)).swap
  have bn:=Nat.le_trans (Nat.sub_le nb 1) J.2.bn
  refine au (fun e=>wpS_pure (hD _ _ _ ⟨hA,M.oneB g3 hn bn (beq_iff_eq.mp e)⟩)) fun e=>?_
  have hnb:=xC J.2.b0 fun q=>e (beq_iff_eq.mpr q)
  have h3:=uR h3
  refine wpS_bind (bI (cq h0 hn) fun pa ea ma=>wpS_bind (cm (left:=true) (base:=0) (n:=nb - 1) (hint:=nb - 1 - 1) hL (hA.kind.trans hk) (M.ma pa ma) (M.inB' bn) (tV M.sb bn) (cq (Nat.lt_trans Nat.zero_lt_one hnb) (Nat.le_refl _)) fun k hk1 hk2 hk3=>?_))
  have g4:=hiB M g3 h0 hn bn ea hk1 hk2 hk3
  clear hk2 hk3 ma
  dsimp -zeta only
  extract_lets k3 bc3 na3 jp3 out3 nb3
  have T: ∀ nb out,Hh κ a b out na nb→1 < nb→nb≤b.size→(∀ y∈b.toList.take nb,κ y≤κ pa)→j+1+1+(na+nb)≤a.size+b.size→wpS (model prog w) A E s (jp3 () nb out) R st₂:=by
   intro nb out g h2 hn2 hlt h3
   refine wpS_bind (bI (cq h0 hn) fun pa' ea' _=>?_)
   have g5:=g.pushA h0 hn hn2 ea' M.sa (Option.some.inj (ea.symm.trans ea')▸hlt)
   refine au (fun e=>wpS_pure (hD _ _ _ ⟨hA,M.endA g5 hn2 (beq_iff_eq.mp e)⟩)) fun e=>?_
   have L':Hi κ a b (out.push pa') (na - 1) nb (j+1+1):=⟨g5,Nat.pos_of_ne_zero fun q=>e (beq_iff_eq.mpr q),h2,Nat.le_trans (Nat.sub_le _ _) hn,hn2,Nat.le_trans (Nat.add_le_add_left (Nat.add_le_add_right (Nat.sub_le _ _) _) _) h3⟩
   exact au (fun _=>wpS_pure (hK _ _ _ _ _ ⟨hA,L'⟩)) fun _=>wpS_pure (hY _ _ _ _ _ ⟨hA,L'⟩)
  refine au (fun _=>au (fun e=>wpS_pure (hD _ _ _ ⟨hA,M.oneB g4.1 hn (Nat.le_trans hk1 bn) (beq_iff_eq.mp e)⟩)) fun e=>au (fun e=>wpS_pure (hD _ _ _ ⟨hA,M.endB g4.1 hn (beq_iff_eq.mp e)⟩)) fun e'=>
   T _ _ g4.1 (Nat.lt_of_le_of_ne (Nat.pos_of_ne_zero fun q=>e' (beq_iff_eq.mpr q)) fun q=>e (beq_iff_eq.mpr q.symm)) (Nat.le_trans hk1 bn) g4.2 (Nat.le_trans (Nat.add_le_add_left (Nat.add_le_add_left hk1 _) _) h3)) fun hk0=>T _ _ g3 hnb bn ?_ h3
  have q: ∀ y∈b.toList.take (nb - 1),κ y≤κ pa:=by rw [← uy hk1 hk0]; exact g4.2
  exact q
 refine au (fun _=>au (fun e=>wpS_pure (hD _ _ _ ⟨hA,M.endA g2.1 J.2.bn (beq_iff_eq.mp e)⟩)) fun e=>
  T _ _ g2.1 (Nat.pos_of_ne_zero fun q=>e (beq_iff_eq.mpr q)) (Nat.le_trans hk1 J.2.an) g2.2 (Nat.le_trans (Nat.add_le_add_left (Nat.add_le_add_right hk1 _) _) J.2.hj)) fun hk0=>T _ _ J.2.g J.2.a0 J.2.an ?_ J.2.hj
 have q: ∀ y∈a.toList.take na,κ y≤κ pb:=by rw [← uy hk1 hk0]; exact g2.2
 exact q
end
end
noncomputable section
open PySem PyProof.Rows
section
variable {prog:Program} {w:World} {A:Around} {E:Value→Shared→Prop} {s:Shared} {kd:SortKind} {κ:Keyed→Int} {a₀:Array Keyed}
theorem qE (b:Nat): ∀ (l:List Keyed) (n:Nat) (xs:Array Keyed) (k:Nat),b+n+l.length≤xs.size→
  ((l.zipIdx n).foldl (fun a x=>a.setIfInBounds (b+x.2) x.1) xs)[k]?= if b+n≤k∧k < b+n+l.length then l[k - (b+n)]? else xs[k]?
 | [],n,xs,k,_=>(if_neg fun h=>Nat.lt_irrefl _ (Nat.lt_of_lt_of_le h.2 h.1)).symm
 | p::l,n,xs,k,h=>by
  rw [List.length_cons] at h
  rw [List.zipIdx_cons,List.foldl_cons,qE b l (n+1) _ k (by rw [Array.size_setIfInBounds]; exact li [b,n,_,_] [([1,2,3,0],[4])] [1,2,0,3] [4] rfl h),List.length_cons]
  by_cases h1:b+(n+1)≤k∧k < b+(n+1)+l.length
  ·rw [if_pos h1,if_pos (by exact ⟨li [b,n,k] [([1,2,0],[3])] [1,2] [3] rfl h1.1,li [k,b,n,_] [([1,0],[2,3,0,4])] [1,0] [2,3,4,0] rfl h1.2⟩),show k - (b+n)=k - (b+(n+1))+1 by exact l_a (lin [_,_,b,n,k] [(1,.a (.v 0) (.a (.v 2) (.v 3)),.v 4),(1,.v 4,.a (.v 1) (.a (.v 2) (.a (.v 3) (.n 1))))] 1 (.v 0) (.a (.v 1) (.n 1)) rfl (l_d (li [b,n,k] [([1,2,0],[3])] [1,2] [3] rfl h1.1)) (l_g _ _)) (lin [_,_,k,b,n] [(1,.v 2,.a (.v 1) (.a (.v 3) (.v 4))),(1,.a (.v 0) (.a (.v 3) (.a (.v 4) (.n 1))),.v 2)] 1 (.a (.v 0) (.n 1)) (.v 1) rfl (l_g _ _) (l_d (h1.1))),List.getElem?_cons_succ]
  ·rw [if_neg h1,Array.getElem?_setIfInBounds]
   by_cases h2:b+n=k
   ·rw [if_pos h2,if_pos (by exact li [b,n,_,_] [([1,2,4,0],[3])] [1,2,0] [3] rfl h),if_pos (by exact ⟨(l_e h2),li [k,b,n,_] [([1],[2,3])] [1,0] [2,3,4,0] rfl (l_s h2)⟩),show k - (b+n)=0 by exact l_a (lin [_,k,b,n] [(1,.v 1,.a (.v 2) (.v 3)),(1,.a (.v 0) (.a (.v 2) (.v 3)),.v 1)] 1 (.v 0) (.n 0) rfl (l_s h2) (l_d ((l_e h2)))) (li [_] [] [] [1] rfl ),List.getElem?_cons_zero]
   ·rw [if_neg h2,if_neg (by lia)]
structure BV (κ:Keyed→Int) (xs ys r:Array Keyed) (p q:Nat):Prop where
 get: ∀ k:Nat,ys[k]?= if p≤k∧k < q then r[k - p]? else xs[k]?
 size:r.size=q - p
 srt:Seg κ r 0 r.size
 from': ∀ j,j < r.size→∃ i,p≤i∧i < q∧kAt κ r j=kAt κ xs i
theorem BV.seg {xs ys r:Array Keyed} {lo p q hi:Nat} (L:BV κ xs ys r p q) (hP:Seg κ xs lo p) (hS:Seg κ xs q hi)
  (h1: ∀ i j,lo≤i→i < p→p≤j→j < hi→kAt κ xs i≤kAt κ xs j) (h2: ∀ i j,p≤i→i < q→q≤j→j < hi→kAt κ xs i≤kAt κ xs j) (hpq:p≤q) (hqh:q≤hi):Seg κ ys lo hi:=by
 have out: ∀ k,¬ (p≤k∧k < q)→kAt κ ys k=kAt κ xs k:=fun k hk=>aU (by rw [L.get,if_neg hk])
 have inn: ∀ k,p≤k→k < q→kAt κ ys k=kAt κ r (k - p):=fun k a b=>aU (by rw [L.get,if_pos ⟨a,b⟩])
 intro i j hi' hij hj
 by_cases a:i < p
 ·rw [out i fun h=>Nat.lt_irrefl _ (Nat.lt_of_lt_of_le a h.1)]
  by_cases b:j < p
  ·rw [out j fun h=>Nat.lt_irrefl _ (Nat.lt_of_lt_of_le b h.1)]; exact hP i j hi' hij b
  ·by_cases c:j < q
   ·rw [inn j (Nat.not_lt.mp b) c]
    obtain ⟨m,q1,q2,q3⟩:=L.from' (j - p) (by rw [L.size]; exact li [_,_,j,q,p] [([3,0],[4]),([1,5],[3]),([4],[2,5])] [1,0] [2] rfl c (l_d ((l_t b))) (l_g _ _))
    rw [q3]; exact h1 i m hi' a q1 (Nat.lt_of_lt_of_le q2 hqh)
   ·rw [out j fun h=>c h.2]; exact h1 i j hi' a (Nat.not_lt.mp b) hj
 ·have a:=Nat.not_lt.mp a
  by_cases b:i < q
  ·rw [inn i a b]
   by_cases c:j < q
   ·rw [inn j (Nat.le_trans a hij) c]
    exact L.srt _ _ (Nat.zero_le _) (Nat.sub_le_sub_right hij p) (by rw [L.size]; exact li [_,_,j,q,p] [([3,0],[4]),([1,5],[3]),([4],[2,5])] [1,0] [2] rfl c (l_d (li [p,j,i] [([3],[2]),([1],[3])] [1] [2] rfl hij (l_t (by assumption)))) (l_g _ _))
   ·obtain ⟨m,q1,q2,q3⟩:=L.from' (i - p) (by rw [L.size]; exact li [_,_,i,q,p] [([3,0],[4]),([1,5],[3]),([4],[2,5])] [1,0] [2] rfl b (l_d ((l_t (by assumption)))) (l_g _ _))
    rw [out j fun h=>c h.2,q3]; exact h2 m j q1 q2 (Nat.not_lt.mp c) hj
  ·have b:=Nat.not_lt.mp b
   rw [out i fun h=>Nat.not_lt.mpr b h.2,out j fun h=>Nat.not_lt.mpr (Nat.le_trans b hij) h.2]; exact hS i j b hij hj
theorem qW {xs ys r:Array Keyed} {p q:Nat} (h: ∀ k:Nat,ys[k]?= if p≤k∧k < q then r[k - p]? else xs[k]?) (hs:r.size=q - p) (hpq:p≤q) (hq:q≤xs.size):ys.toList=xs.toList.take p++(r.toList++xs.toList.drop q):=by
 apply List.ext_getElem?
 intro k
 have hl:(xs.toList.take p).length=p:=by rw [List.length_take,Array.length_toList]; exact Nat.min_eq_left (li [p,_,q] [([1],[3]),([3],[2])] [1] [2] rfl hpq hq)
 rw [Array.getElem?_toList,h,List.getElem?_append,hl,List.getElem?_append,Array.length_toList,hs]
 by_cases h1:k < p
 ·rw [if_neg (fun q=>Nat.lt_irrefl _ (Nat.lt_of_lt_of_le h1 q.1)),if_pos h1,List.getElem?_take_of_lt h1,Array.getElem?_toList]
 ·rw [if_neg h1]
  by_cases h2:k < q
  ·rw [if_pos ⟨Nat.not_lt.mp h1,h2⟩,if_pos (by exact li [_,_,k,q,p] [([3,0],[4]),([4],[2,5]),([1,5],[3])] [1,0] [2] rfl h2 (l_g _ _) (l_d ((l_t h1)))),Array.getElem?_toList]
  ·rw [if_neg (fun q=>h2 q.2),if_neg (by exact Nat.not_lt_of_ge (li [_,_,q,k,p] [([3],[4]),([1,5],[3]),([4],[2,5])] [1] [2] rfl (l_t h2) (l_d (hpq)) (l_g _ _))),List.getElem?_drop,Array.getElem?_toList]; congr 1; exact l_a (li [k,q,_,_,p,_] [([4,5],[2]),([1],[6,5]),([6],[3,4])] [1] [2,3] rfl (l_d (hpq)) (l_g _ _) (l_g _ _)) (li [q,_,k,_,p,_] [([1],[4,5]),([6,5],[3]),([2,4],[6])] [1,2] [3] rfl (l_g _ _) (l_d ((l_t h1))) (l_d (li [_,_,q,k,p] [([3],[4]),([1,5],[3]),([4],[2,5])] [1] [2] rfl (l_t h2) (l_d (hpq)) (l_g _ _))))
theorem Ef (xs:List Keyed) {p q:Nat} (h:p≤q):xs=xs.take p++((xs.drop p).take (q - p)++xs.drop q):=by
 have:=List.take_append_drop (q - p) (xs.drop p)
 rw [List.drop_drop,show p+(q - p)=q by exact l_a (li [p,_,q] [([2,1],[3])] [1,2] [3] rfl (l_d (h))) (li [q,p,_] [([1],[3,2])] [1] [2,3] rfl (l_g _ _))] at this
 rw [this,List.take_append_drop]
theorem lm {xs:Array Keyed} {p q j:Nat} (hq:q≤xs.size) (h:j < q - p):(xs.extract p q)[j]?= xs[p+j]?:=by
 rw [Array.getElem?_extract,if_pos (by exact li [j,_,_,p,q,_] [([1,0],[3]),([3,4],[5]),([5],[6]),([6],[2,4])] [1,0] [2] rfl h (l_p (li [_,j] [([2,0],[1])] [0] [1] rfl h)) (l_m (hq)) (l_g _ _))]
theorem ka {xs:Array Keyed} {p q:Nat} (hq:q≤xs.size):(xs.extract p q).size=q - p:=by rw [Array.size_extract]; lia
theorem ui {xs:Array Keyed} {p q:Nat} (hq:q≤xs.size) (h:Seg κ xs p q):Seg κ (xs.extract p q) 0 (xs.extract p q).size:=fun i j _ hij hj=>by
 rw [ka hq] at hj
 rw [aU (lm hq (Nat.lt_of_le_of_lt hij hj)),aU (lm hq hj)]
 exact h _ _ (Nat.le_add_right _ _) (Nat.add_le_add_left hij _) (by exact li [p,j,q,_] [([2,0],[4]),([4,1],[3])] [1,2,0] [3] rfl hj (l_p (li [_,j] [([2,0],[1])] [0] [1] rfl hj)))
theorem oq {xs:Array Keyed} {p q:Nat} {y:Keyed} (hy:y∈(xs.extract p q).toList):y∈xs.toList∧∃ i,p≤i∧i < q∧kAt κ xs i=κ y:=by
 rw [Array.toList_extract,List.extract_eq_take_drop] at hy
 obtain ⟨i,hi,e⟩:=List.mem_take_iff_getElem.mp hy
 rw [List.length_drop,Array.length_toList] at hi
 rw [List.getElem_drop] at e
 refine ⟨by rw [← e]; exact List.getElem_mem _,p+i,Nat.le_add_right _ _,by exact li [p,i,q,_,_] [([2,0],[4]),([4],[5]),([5,1],[3])] [1,2,0] [3] rfl (by assumption) (Nat.min_le_left _ _) (l_p (li [_,i,_] [([2,0],[3]),([3],[1])] [0] [1] rfl (by assumption) (Nat.min_le_left _ _))),?_⟩
 rw [bp (κ:=κ) (Array.getElem?_eq_getElem (show p+i < xs.size by exact li [p,i,_,_,_] [([2,0],[4]),([4],[5]),([5,1],[3])] [1,2,0] [3] rfl hi (Nat.min_le_right _ _) (l_p (li [_,i,_] [([2,0],[3]),([3],[1])] [0] [1] rfl hi (Nat.min_le_right _ _))))),← e]; rfl
theorem Srt.seg {r:Array Keyed} (h:Srt κ r.toList):Seg κ r 0 r.size:=fun i j _ hij hj=>by
 by_cases e:i=j
 ·rw [e]; exact Int.le_refl _
 ·rw [bp (κ:=κ) (Array.getElem?_eq_getElem hj),bp (κ:=κ) (Array.getElem?_eq_getElem (Nat.lt_of_le_of_lt hij hj))]
  exact List.pairwise_iff_getElem.mp h i j (by rw [Array.length_toList]; exact li [i,_,j] [([1],[3]),([3,0],[2])] [1,0] [2] rfl hij hj) (by rw [Array.length_toList]; exact hj) (Nat.lt_of_le_of_ne hij e)
structure uz (κ:Keyed→Int) (xs ys:Array Keyed) (lo hi:Nat):Prop where
 perm:ys.Perm xs
 seg:Seg κ ys lo hi
 out: ∀ k,k < lo∨hi≤k→ys[k]?= xs[k]?
theorem qO {xs r:Array Keyed} {lo mid hi p q:Nat} (hlp:lo≤p) (hpm:p < mid) (hmq:mid < q) (hqh:q≤hi) (hh:hi≤xs.size) (s1:Seg κ xs lo mid) (s2:Seg κ xs mid hi)
  (h1: ∀ i,lo≤i→i < p→kAt κ xs i≤kAt κ xs mid) (h2: ∀ i,q≤i→i < hi→kAt κ xs (mid - 1)≤kAt κ xs i) (g:gf κ (xs.extract p mid) (xs.extract mid q) r):
  uz κ xs ((r.toList.zipIdx 0).foldl (fun a x=>a.setIfInBounds (p+x.2) x.1) xs) lo hi:=by
 have e:(xs.extract p mid).toList++(xs.extract mid q).toList=(xs.toList.drop p).take (q - p):=by
  rw [Array.toList_extract,Array.toList_extract,List.extract_eq_take_drop,List.extract_eq_take_drop,show q - p=(mid - p)+(q - mid) by exact l_a (li [_,_,_,p,q,_] [([1,4],[5]),([6],[2,4]),([5],[3,6])] [1] [2,3] rfl (l_d (li [p,q,_] [([1,0],[3]),([3,0],[2])] [1] [2] rfl hpm hmq)) (l_g _ _) (l_g _ _)) (li [_,_,_,q,p,_] [([4],[3,5]),([1,5],[6]),([2,6],[4])] [1,2] [3] rfl (l_g _ _) (l_d (li [p,_] [([1,0],[2])] [1] [2] rfl hpm)) (l_d (li [_,q] [([1,0],[2])] [1] [2] rfl hmq))),List.take_add,List.drop_drop,show p+(mid - p)=mid by exact l_a (li [p,_,_] [([2,1],[3])] [1,2] [3] rfl (l_d (li [p,_] [([1,0],[2])] [1] [2] rfl hpm))) (li [_,p,_] [([1],[3,2])] [1] [2,3] rfl (l_g _ _))]
 have hr:r.size=q - p:=by
  have:=g.1.length_eq
  rw [e,List.length_take,List.length_drop,Array.length_toList,Array.length_toList] at this
  exact l_a (li [_,_,_] [([1],[3]),([3],[2])] [1] [2] rfl (l_e this) (Nat.min_le_left _ _)) (li [_,_,_] [([3],[2]),([1],[3])] [1] [2] rfl (l_s this) (l_m (li [_,_,q,hi,_,p] [([3],[4]),([4],[5]),([1,6],[3]),([5],[2,6])] [1] [2] rfl hqh hh (l_d (li [p,q,_] [([1,0],[3]),([3,0],[2])] [1] [2] rfl hpm hmq)) (l_g _ _))))
 have get: ∀ k:Nat,((r.toList.zipIdx 0).foldl (fun a x=>a.setIfInBounds (p+x.2) x.1) xs)[k]?= if p≤k∧k < q then r[k - p]? else xs[k]?:=fun k=>by
  rw [qE p r.toList 0 xs k (by rw [Array.length_toList]; exact lin [p,_,_,q,hi,_] [(1,.v 3,.v 4),(1,.v 4,.v 2),(1,.v 1,.v 5),(1,.a (.v 5) (.v 0),.v 3)] 1 (.a (.a (.v 0) (.n 0)) (.v 1)) (.v 2) rfl hqh hh (l_e hr) (l_d (li [p,q,_] [([1,0],[3]),([3,0],[2])] [1] [2] rfl hpm hmq))),Array.length_toList,hr,Array.getElem?_toList,Nat.add_zero,show p+(q - p)=q by exact l_a (li [p,_,q] [([2,1],[3])] [1,2] [3] rfl (l_d (li [p,q,_] [([1,0],[3]),([3,0],[2])] [1] [2] rfl hpm hmq))) (li [q,p,_] [([1],[3,2])] [1] [2,3] rfl (l_g _ _))]
 have L:BV κ xs ((r.toList.zipIdx 0).foldl (fun a x=>a.setIfInBounds (p+x.2) x.1) xs) r p q:=by
  refine ⟨get,hr,Srt.seg g.2,fun j hj=>?_⟩
  have hm:r[j]∈(xs.extract p q).toList:=by
   rw [Array.toList_extract,List.extract_eq_take_drop,← e]
   exact g.1.mem_iff.mp (by simp)
  obtain ⟨_,i,a,b,c⟩:=oq (κ:=κ) hm
  exact ⟨i,a,b,by rw [c,bp (κ:=κ) (Array.getElem?_eq_getElem hj)]⟩
 refine ⟨?_,L.seg (fun i j a b c=>s1 i j a b (Nat.lt_trans c hpm)) (fun i j a b c=>s2 i j (Nat.le_trans (Nat.le_of_lt hmq) a) b c) (fun i j a b c d=>?_) (fun i j a b c d=>?_) (Nat.le_of_lt (Nat.lt_trans hpm hmq)) hqh,fun k hk=>by rw [get,if_neg (by lia)]⟩
 ·rw [Array.perm_iff_toList_perm,qW get hr (Nat.le_of_lt (Nat.lt_trans hpm hmq)) (Nat.le_trans hqh hh)]
  conv=>rhs; rw [Ef xs.toList (show p≤q from Nat.le_of_lt (Nat.lt_trans hpm hmq)),← e]
  exact (g.1.append_right _).append_left _
 ·by_cases x:j < mid
  ·exact s1 i j a (Nat.le_trans (Nat.le_of_lt b) c) x
  ·exact Int.le_trans (h1 i a b) (s2 mid j (Nat.le_refl _) (Nat.not_lt.mp x) d)
 ·by_cases x:i < mid
  ·exact Int.le_trans (s1 i (mid - 1) (Nat.le_trans hlp a) (by exact li [i,_,_] [([1,0],[3]),([3],[2,0])] [1] [2] rfl x (l_g _ _)) (by exact (l_d (li [_,i] [([2,0],[1])] [0] [1] rfl x)))) (h2 j c d)
  ·exact s2 i j (Nat.not_lt.mp x) (Nat.le_trans (Nat.le_of_lt b) c) d
theorem nu {xs:Array Keyed} {lo mid hi:Nat} (s1:Seg κ xs lo mid) (s2:Seg κ xs mid hi) (h: ∀ i j,lo≤i→i < mid→mid≤j→j < hi→kAt κ xs i≤kAt κ xs j):Seg κ xs lo hi:=fun i j a b c=>by
 by_cases x:j < mid
 ·exact s1 i j a b x
 ·by_cases y:i < mid
  ·exact h i j a y (Nat.not_lt.mp x) c
  ·exact s2 i j (Nat.not_lt.mp y) b c
theorem uC {x:SortSt} {Q:PUnit→SortSt→Prop} {st:SortSt} {P:SortSt→Prop} (p:P x) (h: ∀ x,P x→Q ⟨⟩ x):wpS (model prog w) A E s (set x:StateT SortSt Sem PUnit) Q st:=by
 unfold wpS; exact wpAny_pure ⟨rfl,h x p⟩
theorem lM {st:SortSt} {i sa na pw sb nb pw':Nat} {Q:Bool→SortSt→Prop} (hL:pQ prog w A E s kd κ a₀) (hB:SB kd a₀ st) (h1:(pendingOf st)[i]?= some (sa,na,pw)) (h2:(pendingOf st)[i+1]?= some (sb,nb,pw'))
  (e:sb=sa+na) (hna:0 < na) (hnb:0 < nb) (hn:sb+nb≤a₀.size) (s1:Seg κ (arrOf st) sa sb) (s2:Seg κ (arrOf st) sb (sb+nb))
  (h: ∀ st',SB kd a₀ st'→pendingOf st'=((pendingOf st).setIfInBounds i (sa,na+nb,pw)).eraseIdxIfInBounds (i+1)→uz κ (arrOf st) (arrOf st') sa (sb+nb)→Q true st'):
  wpS (model prog w) A E s (mergeAt' i) Q st:=by
 unfold mergeAt'
 refine wpS_bind (wpS_get ?_)
 rw [h1,h2]
 dsimp -zeta only
 refine wpS_bind (uC (P:=fun st'=>SB kd a₀ st'∧pendingOf st'=((pendingOf st).setIfInBounds i (sa,na+nb,pw)).eraseIdxIfInBounds (i+1)∧arrOf st'=arrOf st) ⟨⟨hB.perm,hB.kind,hB.failed⟩,rfl,rfl⟩ fun st₂ P=>?_)
 have hs:(arrOf st).size=a₀.size:=hB.size
 have mem: ∀ p∈(arrOf st).toList,p∈a₀.toList:=fun p hp=>(Array.perm_iff_toList_perm.mp hB.perm).mem_iff.mp hp
 have same:Seg κ (arrOf st) sa (sb+nb)→Q true st₂:=fun sg=>h st₂ P.1 P.2.1 ⟨by rw [P.2.2],by rw [P.2.2]; exact sg,fun k _=>by rw [P.2.2]⟩
 refine wpS_bind (bI (show sb < (arrOf st).size by exact lin [sb,_,nb,_] [(1,.a (.n 0) (.n 1),.v 2),(1,.a (.v 0) (.v 2),.v 3),(1,.v 3,.v 1)] 1 (.a (.v 0) (.n 1)) (.v 1) rfl hnb hn (l_s hs)) fun pb eb mb=>wpS_bind (cm (left:=false) (base:=sa) (n:=na) (hint:=0) hL P.1.kind (mem pb mb) (fun i hi=>hB.at (by exact li [sa,i,_,na,sb,nb] [([1,4],[5]),([5,6],[3]),([2,0],[4])] [1,2,0] [3] rfl (l_s e) hn hi)) (e▸s1) hna fun k hk1 hk2 hk3=>?_))
 have b1: ∀ i,sa≤i→i < sa+k→kAt κ (arrOf st) i≤kAt κ (arrOf st) sb:=fun i a b=>by
  have q:=hk2 (i - sa) (by exact li [_,k,i,sa] [([3,0],[4,2]),([1,4],[3])] [1,0] [2] rfl b (l_d (a)))
  simp only [bz,Bool.false_eq_true,if_false,decide_eq_true_eq] at q
  rwa [show sa+(i - sa)=i by exact l_a (li [sa,_,i] [([2,1],[3])] [1,2] [3] rfl (l_d (a))) (li [i,sa,_] [([1],[3,2])] [1] [2,3] rfl (l_g _ _)),← bp (κ:=κ) eb] at q
 dsimp -zeta only
 refine au (fun z=>wpS_pure (same (nu s1 s2 fun i j a b c d=>Int.le_trans (b1 i a (by have:=beq_iff_eq.mp z; exact li [i,sa,k,sb,na,_] [([4],[2,5]),([1,0],[4]),([6],[]),([5],[6,3])] [1,0] [2,3] rfl (l_e e) b (l_e this) (l_g _ _))) (s2 sb j (Nat.le_refl _) c d)))) fun z=>?_
 have z:k < na:=Nat.lt_of_le_of_ne hk1 fun q=>z (beq_iff_eq.mpr (by exact l_a (li [_,na,k] [([2],[3]),([1,3],[2])] [1] [] rfl (l_s q) (l_d (hk1))) (li [_] [] [] [1] rfl )))
 refine wpS_bind (bI (show sa+k+(na - k) - 1 < (arrOf st).size by exact li [_,_,sa,na,sb,nb,_,_,k] [([3,4],[5]),([5,6],[7]),([7],[2]),([8,9],[4]),([1,0],[3,9,8])] [1,0] [2] rfl (l_s e) hn (l_s hs) (l_d (hk1)) (l_d (lin [sa,k,_,na] [(1,.a (.n 0) (.n 1),.v 3),(1,.v 3,.a (.v 2) (.v 1))] 1 (.n 1) (.a (.a (.v 0) (.v 1)) (.v 2)) rfl hna (l_g _ _)))) fun pa ea ma=>wpS_bind (cm (left:=true) (base:=sb) (n:=nb) (hint:=nb - 1) hL P.1.kind (mem pa ma) (fun i hi=>hB.at (by exact li [sb,i,_,nb] [([1,4],[3]),([2,0],[4])] [1,2,0] [3] rfl hn hi)) s2 (by exact (l_d (lin [nb] [(1,.a (.n 0) (.n 1),.v 0)] 1 (.n 1) (.v 0) rfl hnb))) fun k' hk1' hk2' hk3'=>?_))
 rw [show sa+k+(na - k) - 1=sb - 1 by exact l_a (li [_,_,sa,na,sb,_,k] [([3,4],[5]),([5],[2,0]),([6,7],[4]),([1,0],[3,7,6])] [1] [2] rfl (l_s e) (l_g _ _) (l_d (hk1)) (l_d (li [sa,k,_,sb,na,_] [([4],[1,5]),([6,0],[4]),([5],[3,2])] [0] [1,2,3] rfl (l_e e) (l_d (lin [sb,sa,na] [(1,.a (.v 1) (.v 2),.v 0),(1,.a (.n 0) (.n 1),.v 2)] 1 (.n 1) (.v 0) rfl (l_s e) hna)) (l_g _ _)))) (li [_,_,sb,sa,na,_,k] [([3],[4,5]),([1,0],[3]),([5],[6,7]),([4,7,6],[2,0])] [1] [2] rfl (l_e e) (l_d (lin [sb,sa,na] [(1,.a (.v 1) (.v 2),.v 0),(1,.a (.n 0) (.n 1),.v 2)] 1 (.n 1) (.v 0) rfl (l_s e) hna)) (l_g _ _) (l_g _ _))] at ea
 have b2: ∀ i,sb+k'≤i→i < sb+nb→kAt κ (arrOf st) (sb - 1)≤kAt κ (arrOf st) i:=fun i a b=>by
  have q:=hk3' (i - sb) (by exact li [k',_,sb,i] [([3,1],[4]),([4],[2,3])] [1] [2] rfl a (l_g _ _)) (by exact li [_,nb,i,sb] [([3,0],[4,2]),([1,4],[3])] [1,0] [2] rfl b (l_d (li [sb,i,k'] [([1,3],[2])] [1] [2] rfl a)))
  simp only [bz,if_true,decide_eq_false_iff_not] at q
  rw [show sb+(i - sb)=i by exact l_a (li [sb,_,i] [([2,1],[3])] [1,2] [3] rfl (l_d (li [sb,i,k'] [([1,3],[2])] [1] [2] rfl a))) (li [i,sb,_] [([1],[3,2])] [1] [2,3] rfl (l_g _ _)),← bp (κ:=κ) ea] at q
  exact Int.not_lt.mp q
 dsimp -zeta only
 refine au (fun z'=>wpS_pure (same (nu s1 s2 fun i j a b c d=>Int.le_trans (s1 i (sb - 1) a (by exact li [i,_,sb] [([1,0],[3]),([3],[2,0])] [1] [2] rfl b (l_g _ _)) (by exact (l_d (li [sb,i] [([2,0],[1])] [0] [1] rfl b)))) (b2 j (by have:=beq_iff_eq.mp z'; exact li [sb,k',j] [([1],[3]),([2],[])] [1,2] [3] rfl c (l_e this)) d)))) fun z'=>?_
 have z':0 < k':=Nat.pos_of_ne_zero fun q=>z' (beq_iff_eq.mpr q)
 extract_lets x y jp
 have M:Mrg kd κ a₀ x y:=by
  refine ⟨fun p hp=>mem p (oq (κ:=κ) hp).1,fun p hp=>mem p (oq (κ:=κ) hp).1,ui (show sb≤(arrOf st).size by exact li [sb,_,nb,_] [([1,3],[4]),([4],[2])] [1] [2] rfl hn (l_s hs)) fun i j a b c=>s1 i j (by exact li [sa,i,k] [([1,3],[2])] [1] [2] rfl a) b c,ui (show sb+k'≤(arrOf st).size by exact li [sb,k',_,nb,_] [([1,4],[5]),([5],[3]),([2],[4])] [1,2] [3] rfl hn (l_s hs) hk1') fun i j a b c=>s2 i j a b (by exact li [j,sb,nb,k'] [([4],[3]),([1,0],[2,4])] [1,0] [2,3] rfl hk1' c),?_,fun p hp=>?_⟩
  ·show kAt κ ((arrOf st).extract sb (sb+k')) 0≤kAt κ ((arrOf st).extract (sa+k) sb) 0
   rw [aU (lm (by exact li [sb,k',_,nb,_] [([1,4],[5]),([5],[3]),([2],[4])] [1,2] [3] rfl hn (l_s hs) hk1') (by exact lin [_,k',sb] [(1,.a (.n 0) (.n 1),.v 1),(1,.a (.v 2) (.v 1),.a (.v 0) (.v 2))] 1 (.a (.n 0) (.n 1)) (.v 0) rfl z' (l_g _ _))),aU (lm (by exact li [sb,_,nb,_] [([1,3],[4]),([4],[2])] [1] [2] rfl hn (l_s hs)) (by exact lin [_,sa,na,sb,k] [(1,.a (.v 1) (.v 2),.v 3),(1,.a (.v 4) (.n 1),.v 2),(1,.v 3,.a (.v 0) (.a (.v 1) (.v 4)))] 1 (.a (.n 0) (.n 1)) (.v 0) rfl (l_s e) z (l_g _ _))),Nat.add_zero,Nat.add_zero]
   have q:=hk3 k (Nat.le_refl _) z
   simp only [bz,Bool.false_eq_true,if_false,decide_eq_false_iff_not,← bp (κ:=κ) eb] at q
   exact Int.le_of_lt (Int.not_le.mp q)
  ·obtain ⟨_,i,a,b,c⟩:=oq (κ:=κ) hp
   show _≤kAt κ ((arrOf st).extract (sa+k) sb) (((arrOf st).extract (sa+k) sb).size - 1)
   rw [ka (by exact li [sb,_,nb,_] [([1,3],[4]),([4],[2])] [1] [2] rfl hn (l_s hs)),aU (lm (by exact li [sb,_,nb,_] [([1,3],[4]),([4],[2])] [1] [2] rfl hn (l_s hs)) (by exact (l_d (lin [_,sa,na,sb,k] [(1,.a (.v 1) (.v 2),.v 3),(1,.a (.v 4) (.n 1),.v 2),(1,.v 3,.a (.v 0) (.a (.v 1) (.v 4)))] 1 (.n 1) (.v 0) rfl (l_s e) z (l_g _ _))))),show sa+k+(sb - (sa+k) - 1)=sb - 1 by exact l_a (lin [sa,k,_,_,sb,_] [(1,.v 4,.a (.v 3) (.n 1)),(1,.a (.v 5) (.a (.v 0) (.v 1)),.v 4),(1,.a (.v 2) (.n 1),.v 5)] 1 (.a (.a (.v 0) (.v 1)) (.v 2)) (.v 3) rfl (l_g _ _) (l_d (li [sa,k,sb,na] [([1,4],[3]),([2],[4])] [1,2] [3] rfl (l_s e) hk1)) (l_d (lin [_,sa,na,sb,k] [(1,.a (.v 1) (.v 2),.v 3),(1,.a (.v 4) (.n 1),.v 2),(1,.v 3,.a (.v 0) (.a (.v 1) (.v 4)))] 1 (.n 1) (.v 0) rfl (l_s e) z (l_g _ _)))) (lin [_,sa,k,_,sb,_] [(1,.a (.v 0) (.n 1),.v 4),(1,.v 4,.a (.v 5) (.a (.v 1) (.v 2))),(1,.v 5,.a (.v 3) (.n 1))] 1 (.v 0) (.a (.a (.v 1) (.v 2)) (.v 3)) rfl (l_d (lin [sb,sa,na] [(1,.a (.v 1) (.v 2),.v 0),(1,.a (.n 0) (.n 1),.v 2)] 1 (.n 1) (.v 0) rfl (l_s e) hna)) (l_g _ _) (l_g _ _)),← c]
   have q:=hk2' (i - sb) (by exact li [_,k',i,sb] [([3,0],[4,2]),([1,4],[3])] [1,0] [2] rfl b (l_d (a)))
   simp only [bz,if_true,decide_eq_true_eq] at q
   rw [show sb+(i - sb)=i by exact l_a (li [sb,_,i] [([2,1],[3])] [1,2] [3] rfl (l_d (a))) (li [i,sb,_] [([1],[3,2])] [1] [2,3] rfl (l_g _ _)),← bp (κ:=κ) ea] at q
   exact Int.le_of_lt q
 have J: ∀ r st',be st₂ st'→gf κ x y r→wpS (model prog w) A E s (jp r) Q st':=fun r st' hA g=>by
  have mg:=qO (xs:=arrOf st) (lo:=sa) (mid:=sb) (hi:=sb+nb) (p:=sa+k) (q:=sb+k') (by exact li [sa,k] [] [1] [1,2] rfl) (by exact li [sa,k,sb,na] [([1,4],[3]),([2,0],[4])] [1,2,0] [3] rfl (l_s e) z) (by exact lin [sb,k'] [(1,.a (.n 0) (.n 1),.v 1)] 1 (.a (.v 0) (.n 1)) (.a (.v 0) (.v 1)) rfl z') (by exact li [sb,k',nb] [([2],[3])] [1,2] [1,3] rfl hk1') (by exact li [sb,nb,_,_] [([1,2],[4]),([4],[3])] [1,2] [3] rfl hn (l_s hs)) s1 s2 b1 b2 g
  refine wpS_bind (wpS_modify (wpS_bind (wpS_get (wpS_pure ?_))))
  have f0:(failedOf st').isNone=true:=by rw [hA.failed,P.1.failed]; rfl
  have ea:arrOf st'=arrOf st:=hA.arr.trans P.2.2
  rw [← ea] at mg
  refine f0.symm▸h _ ⟨mg.perm.trans (by rw [ea]; exact hB.perm),hA.kind.trans P.1.kind,hA.failed.trans P.1.failed⟩ (hA.pend.trans P.2.1) (by rw [← ea]; exact mg)
 have hx:1≤x.size:=by show 1≤((arrOf st).extract (sa+k) sb).size; rw [ka (by exact li [sb,_,nb,_] [([1,3],[4]),([4],[2])] [1] [2] rfl hn (l_s hs))]; exact lin [_,sa,na,sb,k] [(1,.a (.v 1) (.v 2),.v 3),(1,.a (.v 4) (.n 1),.v 2),(1,.v 3,.a (.v 0) (.a (.v 1) (.v 4)))] 1 (.n 1) (.v 0) rfl (l_s e) z (l_g _ _)
 have hy:1≤y.size:=by show 1≤((arrOf st).extract sb (sb+k')).size; rw [ka (by exact li [sb,k',_,nb,_] [([1,4],[5]),([5],[3]),([2],[4])] [1,2] [3] rfl hn (l_s hs) hk1')]; exact lin [_,k',sb] [(1,.a (.n 0) (.n 1),.v 1),(1,.a (.v 2) (.v 1),.a (.v 0) (.v 2))] 1 (.n 1) (.v 0) rfl z' (l_g _ _)
 exact au (fun _=>wpS_bind (lK hL P.1.kind M hx hy J)) fun _=>wpS_bind (lL hL P.1.kind M hx hy J)
end
end
noncomputable section
open PySem PyProof.Rows
noncomputable def Chain (κ:Keyed→Int) (xs:Array Keyed):List (Nat×Nat)→Nat→Nat→Prop
 | [],a,c=>a=c
 | t::r,a,c=>t.1=a∧0 < t.2∧Seg κ xs a (a+t.2)∧Chain κ xs r (a+t.2) c
noncomputable def prs (p:Array (Nat×Nat×Nat)):List (Nat×Nat):=p.toList.map fun t=>(t.1,t.2.1)
section
variable {prog:Program} {w:World} {A:Around} {E:Value→Shared→Prop} {s:Shared} {kd:SortKind} {κ:Keyed→Int} {a₀:Array Keyed} {xs ys:Array Keyed}
theorem Chain.len: ∀ {l:List (Nat×Nat)} {a c:Nat},Chain κ xs l a c→a+l.length≤c
 | [],_,_,h=>Nat.le_of_eq h
 | t::r,a,c,h=>by have:=Chain.len h.2.2.2; have:=h.2.1; rw [List.length_cons]; exact lin [a,_,c,_] [(1,.a (.a (.v 0) (.v 3)) (.v 1),.v 2),(1,.a (.n 0) (.n 1),.v 3)] 1 (.a (.v 0) (.a (.v 1) (.n 1))) (.v 2) rfl (by assumption) this
theorem Seg.keep {a c:Nat} (h:Seg κ xs a c) (e: ∀ k,a≤k→k < c→ys[k]?= xs[k]?):Seg κ ys a c:=fun i j hi hij hj=>by
 rw [aU (e i hi (Nat.lt_of_le_of_lt hij hj)),aU (e j (Nat.le_trans hi hij) hj)]; exact h i j hi hij hj
theorem Chain.keep: ∀ {l:List (Nat×Nat)} {a c:Nat},Chain κ xs l a c→(∀ k,a≤k→k < c→ys[k]?= xs[k]?)→Chain κ ys l a c
 | [],_,_,h,_=>h
 | t::r,a,c,h,e=>⟨h.1,h.2.1,h.2.2.1.keep fun k h1 h2=>e k h1 (Nat.lt_of_lt_of_le h2 (Nat.le_trans (Nat.le_add_right _ _) h.2.2.2.len)),Chain.keep h.2.2.2 fun k h1 h2=>e k (Nat.le_trans (Nat.le_add_right _ _) h1) h2⟩
theorem Chain.app: ∀ {l r:List (Nat×Nat)} {a b c:Nat},Chain κ xs l a b→Chain κ xs r b c→Chain κ xs (l++r) a c
 | [],_,_,_,_,h,q=>by cases h; exact q
 | _::_,_,_,_,_,h,q=>⟨h.1,h.2.1,h.2.2.1,Chain.app h.2.2.2 q⟩
theorem Chain.cut: ∀ {l r:List (Nat×Nat)} {a c:Nat},Chain κ xs (l++r) a c→∃ b,Chain κ xs l a b∧Chain κ xs r b c
 | [],_,a,_,h=>⟨a,rfl,h⟩
 | _::_,_,_,_,h=>let ⟨b,h1,h2⟩:=Chain.cut h.2.2.2; ⟨b,⟨h.1,h.2.1,h.2.2.1,h1⟩,h2⟩
theorem xD {α:Type} {l:List α} {i:Nat} (h:i+1 < l.length): ∃ l1 x y l2,l=l1++x::y::l2∧l1.length=i:=by
 refine ⟨l.take i,l[i],l[i+1],l.drop (i+2),?_,by rw [List.length_take]; exact Nat.min_eq_left (li [i,_] [([1,0,0],[2])] [1] [2] rfl h)⟩
 rw [← List.drop_eq_getElem_cons h,← List.drop_eq_getElem_cons (Nat.lt_of_succ_lt h),List.take_append_drop]
theorem iZ {st:SortSt} {i lo:Nat} {Q:Bool→SortSt→Prop} (hL:pQ prog w A E s kd κ a₀) (hB:SB kd a₀ st) (hc:Chain κ (arrOf st) (prs (pendingOf st)) 0 lo) (hlo:lo≤a₀.size) (hi:i+1 < (pendingOf st).size)
  (h: ∀ st',SB kd a₀ st'→Chain κ (arrOf st') (prs (pendingOf st')) 0 lo→(pendingOf st').size+1=(pendingOf st).size→(∀ k,lo≤k→(arrOf st')[k]?= (arrOf st)[k]?)→Q true st'):
  wpS (model prog w) A E s (mergeAt' i) Q st:=by
 obtain ⟨l1,⟨sa,na,pw⟩,⟨sb,nb,pw'⟩,l2,el,h1⟩:=xD (l:=(pendingOf st).toList) (by rw [Array.length_toList]; exact hi)
 have hc':=hc
 rw [prs,el,List.map_append,List.map_cons,List.map_cons] at hc'
 obtain ⟨b,c1,e1,n1,g1,e2,n2,g2,c2⟩:=hc'.cut
 dsimp only at e1 n1 g1 e2 n2 g2 c2
 subst e1
 have hb:=c2.len
 have e3:(pendingOf st)[i]?= some (sa,na,pw):=by rw [← Array.getElem?_toList,el,List.getElem?_append_right (Nat.le_of_eq h1),h1,Nat.sub_self]; rfl
 have e4:(pendingOf st)[i+1]?= some (sb,nb,pw'):=by rw [← Array.getElem?_toList,el,List.getElem?_append_right (by exact li [_,i] [([1],[2])] [1] [2,0] rfl (l_e h1)),h1,Nat.add_sub_cancel_left]; rfl
 subst e2
 refine lM hL hB e3 e4 rfl n1 n2 (by exact li [sa,na,nb,_,lo,_] [([5],[4]),([1,2,3,6],[5])] [1,2,3] [4] rfl hlo hb) g1 g2 fun st' hB' hp hm=>?_
 have el':(pendingOf st').toList=l1++(sa,na+nb,pw)::l2:=by
  rw [hp,Array.toList_eraseIdxIfInBounds,Array.toList_setIfInBounds,el,← h1,List.set_append_right _ _ (Nat.le_refl _),Nat.sub_self,List.set_cons_zero,List.eraseIdx_append_of_length_le (Nat.le_succ _),show l1.length.succ - l1.length=1 by exact l_a (li [_,_] [([1,2],[2,0])] [1] [0] rfl (l_d (li [_] [] [1] [1,0] rfl ))) (li [_,_] [([2,0],[1,2])] [0] [1] rfl (l_g _ _))]; rfl
 have ha:=c1.len
 refine h st' hB' ?_ ?_ fun k hk=>hm.out k (.inr (by exact li [sa,na,nb,k,_,lo] [([1,2,3,5],[6]),([6],[4])] [1,2,3] [4] rfl hb hk))
 ·rw [prs,el',List.map_append,List.map_cons]
  exact (c1.keep fun k _ h2=>hm.out k (.inl h2)).app ⟨rfl,Nat.add_pos_left n1 _,by show Seg κ _ sa (sa+(na+nb)); rw [← Nat.add_assoc]; exact hm.seg,by show Chain κ _ _ (sa+(na+nb)) lo; rw [← Nat.add_assoc]; exact c2.keep fun k h1 _=>hm.out k (.inr h1)⟩
 ·rw [← Array.length_toList,← Array.length_toList,el',el,List.length_append,List.length_append]; rfl
theorem jw {X:Type} {n:Nat} {f:Nat→Option Unit×X→StateT SortSt Sem (ForInStep (Option Unit×X))} {st:SortSt} {Q:Option Unit×X→SortSt→Prop} (I:Nat→X→SortSt→Prop) (K:X→SortSt→Prop) {x:X} (h0:I 0 x st)
  (hstep: ∀ i x st (R:ForInStep (Option Unit×X)→SortSt→Prop),i < n→I i x st→(∀ x st,K x st→R (.done (none,x)) st)→(∀ x st,I (i+1) x st→R (.yield (none,x)) st)→wpS (model prog w) A E s (f i (none,x)) R st)
  (hend: ∀ x st,I n x st→K x st) (hk: ∀ x st,K x st→Q (none,x) st):wpS (model prog w) A E s (forIn [0:n] (none,x) f) Q st:=by
 refine wpS_forRange (fun i c st=>c.1=none∧I i c.2 st) ?_ ?_ ⟨rfl,h0⟩
 ·rintro i ⟨_,x⟩ st _ hi ⟨rfl,hI⟩
  exact hstep i x st _ hi hI hk fun x st q=>⟨rfl,q⟩
 ·rintro ⟨_,x⟩ st ⟨rfl,hI⟩
  exact hk x st (hend _ _ (by rwa [Nat.zero_max] at hI))
theorem sW (p:Array (Nat×Nat×Nat)) (a b c:Nat):prs (p.push (a,b,c))=prs p++[(a,b)]:=by rw [prs,Array.toList_push,List.map_append]; rfl
theorem qG (p:Array (Nat×Nat×Nat)):(prs p).length=p.size:=by rw [prs,List.length_map,Array.length_toList]
theorem oX (p:Array (Nat×Nat×Nat)) (i:Nat) (f:Nat×Nat×Nat→Nat×Nat×Nat) (h: ∀ t,(f t).1=t.1∧(f t).2.1=t.2.1):prs (p.modify i f)=prs p:=by
 apply List.ext_getElem?
 intro k
 rw [prs,prs,List.getElem?_map,List.getElem?_map,Array.getElem?_toList,Array.getElem?_toList,Array.getElem?_modify]
 split
 ·cases p[k]? with
  | none=>rfl
  | some t=>exact congrArg some (Prod.ext (h t).1 (h t).2)
 ·rfl
theorem zd {c:Prop} [Decidable c] {n:Nat} (h: ¬ n≤1):(if c then n - 2 - 1 else n - 2)+1 < n:=by split<;>omega
theorem sF {st:SortSt} {Q:Unit→SortSt→Prop} (hL:pQ prog w A E s kd κ a₀) (hB:SB kd a₀ st) (hp:pendingOf st= #[])
  (h: ∀ st',SB kd a₀ st'→Seg κ (arrOf st') 0 a₀.size→Q () st'):wpS (model prog w) A E s sortRuns' Q st:=by
 rw [sortRuns'_eq]
 refine wpS_bind (wpS_get ?_)
 extract_lets size minrun lo0
 have hs:size=a₀.size:=hB.size
 clear_value size minrun
 subst hs
 refine wpS_bind (jw (fun i lo st=>(SB kd a₀ st∧Chain κ (arrOf st) (prs (pendingOf st)) 0 lo)∧lo≤a₀.size∧i≤lo) (fun lo st=>(SB kd a₀ st∧Chain κ (arrOf st) (prs (pendingOf st)) 0 lo)∧lo=a₀.size)
  ⟨⟨hB,by rw [hp]; rfl⟩,Nat.zero_le _,Nat.le_refl _⟩ ?step (fun lo st q=>⟨q.1,Nat.le_antisymm q.2.1 q.2.2⟩) ?post)
 case step=>
  clear h hB hp
  intro i lo st R hi J hD hY
  refine au (fun z=>wpS_pure (hD _ _ ⟨J.1,Nat.le_antisymm J.2.1 z⟩)) fun z=>wpS_bind (pX hL (Nat.le_of_eq (Nat.add_sub_cancel' J.2.1)) (Nat.sub_pos_of_lt (Nat.not_le.mp z)) J.1.1 fun m st₁ hB₁ hp₁ ha₁ hm1 hm2 sg=>?_)
  have c1:Chain κ (arrOf st₁) (prs (pendingOf st₁)) 0 lo:=by rw [hp₁]; exact J.1.2.keep fun k _ hk=>ha₁ k hk
  dsimp -zeta only
  extract_lets n1 jp force
  have T: ∀ n st,SB kd a₀ st→Chain κ (arrOf st) (prs (pendingOf st)) 0 lo→1≤n→n≤a₀.size - lo→Seg κ (arrOf st) lo (lo+n)→wpS (model prog w) A E s (jp () n) R st:=by
   clear c1 sg hm1 hm2 ha₁ hp₁ hB₁ st₁
   intro n st hB c1 h1 h2 sg
   refine wpS_bind (wpS_get ?_)
   extract_lets lo' jp2
   have U: ∀ st,SB kd a₀ st→Chain κ (arrOf st) (prs (pendingOf st)) 0 lo→Seg κ (arrOf st) lo (lo+n)→wpS (model prog w) A E s (jp2 ()) R st:=fun st hB c1 sg=>
    wpS_bind (wpS_modify (wpS_pure (hY _ _ ⟨⟨⟨hB.perm,hB.kind,hB.failed⟩,by show Chain κ (arrOf st) (prs ((pendingOf st).push (lo,n,0))) 0 (lo+n); rw [sW]; exact c1.app ⟨rfl,h1,sg,rfl⟩⟩,fk h2 J.2.1,Nat.le_trans (Nat.succ_le_succ J.2.2) (Nat.add_le_add_left h1 _)⟩)))
   clear_value jp2
   cases (pendingOf st).back? with
   | none=>exact U st hB c1 sg
   | some t=>
    refine wpS_bind (jw (fun _ _ st=>SB kd a₀ st∧Chain κ (arrOf st) (prs (pendingOf st)) 0 lo∧Seg κ (arrOf st) lo (lo+n)) (fun _ st=>SB kd a₀ st∧Chain κ (arrOf st) (prs (pendingOf st)) 0 lo∧Seg κ (arrOf st) lo (lo+n)) ⟨hB,c1,sg⟩ ?istep (fun _ _ q=>q) fun _ st q=>
     wpS_bind (wpS_modify (U _ ⟨q.1.perm,q.1.kind,q.1.failed⟩ (by
      have e:=oX (pendingOf st) ((pendingOf st).size - 1) (fun x=>(x.1,x.2.1,power' a₀.size (2*t.1+t.2.1) (2*t.1+t.2.1+t.2.1+n) a₀.size)) fun _=>⟨rfl,rfl⟩
      have:=q.2.1
      rw [← e] at this
      exact this) q.2.2)))
    clear U sg c1 hB hD hY R
    intro _ _ st R _ q hD hY
    refine wpS_bind (wpS_get ?_)
    extract_lets p
    by_cases z:p.size > 1
    ·rw [if_pos z]
     cases p[p.size - 2]? with
     | none=>exact wpS_pure (hD _ _ q)
     | some t=>exact au (fun _=>wpS_pure (hD _ _ q)) fun _=>wpS_bind (iZ hL q.1 q.2.1 J.2.1 (by show p.size - 2+1 < p.size; exact li [_,_] [([1,0,0],[2])] [1,0,0] [2] rfl (l_d (li [_] [([0,0],[1])] [0,0] [1] rfl z))) fun st' a b _ d=>wpS_pure (hY _ _ ⟨a,b,q.2.2.keep fun k hk _=>d k hk⟩))
    ·rw [if_neg z]
     exact wpS_pure (hD _ _ q)
  refine au (fun z=>wpS_bind (wpS_lift (wpAny_rule ⟨rfl,wpS_bind (lN hL (fk (Nat.min_le_left _ _) J.2.1) (Nat.le_min.mpr ⟨hm2,Nat.le_of_lt z⟩) hB₁ sg fun st₂ hB₂ hp₂ sg₂ ha₂=>?_)⟩))) fun z=>T _ _ hB₁ c1 hm1 hm2 sg
  exact T _ _ hB₂ (by rw [hp₂]; exact c1.keep fun k _ hk=>ha₂ k hk) (Nat.le_min.mpr ⟨Nat.le_trans hm1 hm2,Nat.le_trans hm1 (Nat.le_of_lt z)⟩) (Nat.min_le_left _ _) sg₂
 case post=>
  intro lo st q
  have e:=q.2
  subst e
  refine wpS_bind (jw (fun i _ st=>(SB kd a₀ st∧Chain κ (arrOf st) (prs (pendingOf st)) 0 a₀.size)∧(pendingOf st).size+i≤a₀.size) (fun _ st=>(SB kd a₀ st∧Chain κ (arrOf st) (prs (pendingOf st)) 0 a₀.size)∧(pendingOf st).size≤1)
   ⟨q.1,by have:=q.1.2.len; rw [qG,Nat.zero_add] at this; exact this⟩ ?fstep (fun _ st q=>⟨q.1,by have:=q.2; exact li [_,_] [([1,2],[2])] [1] [0] rfl q.2⟩) fun _ st q=>wpS_pure (h st q.1.1 ?_))
  ·clear h q
   intro i _ st R _ q hD hY
   refine wpS_bind (wpS_get (au (fun z=>wpS_pure (hD _ _ ⟨q.1,z⟩)) fun z=>wpS_bind (iZ hL q.1.1 q.1.2 (Nat.le_refl _) (zd z) fun st' a b c _=>wpS_pure (hY _ _ ⟨⟨a,b⟩,by have:=q.2; exact li [_,i,_,_] [([4,2],[3]),([1,0],[4])] [1,2,0] [3] rfl q.2 (l_e c)⟩))))
  ·have q1:=q.1.2
   have q2:=q.2
   rw [← qG] at q2
   generalize prs (pendingOf st)=l at q1 q2
   match l,q1,q2 with
   | [],q1,_=>rw [← show 0=a₀.size from q1]; exact fun i j _ _ h=>absurd h (Nat.not_lt_zero _)
   | [t],q1,_=>rw [← show 0+t.2=a₀.size from q1.2.2.2]; exact q1.2.2.1
   | _::_::_,_,q2=>exact absurd q2 (by simp)
end
end
noncomputable section
open PySem PyProof.Rows
section
variable {prog:Program} {w:World} {A:Around} {E:Value→Shared→Prop} {s:Shared} {kd:SortKind} {κ:Value→Int}
noncomputable def Old (s:Shared) (a:Addr) (s':Shared):Prop:=∀ b o,b≠a→s.heap.get? b=some o→s'.heap.get? b=some o
theorem eo {vs:List Value} {xs:Array Keyed} (hp:xs.Perm (pairsOf vs)) (hs:Seg (fun p=>κ p.1) xs 0 (pairsOf vs).size):
  (xs.map (·.2)).toList.Perm vs∧(xs.map (·.2)).toList.Pairwise fun x y=>κ x≤κ y:=by
 have hl:xs.toList.Perm (vs.zip vs):=by rw [← pairsOf_toList]; exact Array.perm_iff_toList_perm.mp hp
 have hm: ∀ p,p∈xs.toList→p.1=p.2∧p.1∈vs:=fun p q=>mem_zip_self (hl.mem_iff.mp q)
 have e:(xs.map (·.2)).toList=xs.toList.map (·.1):=by rw [Array.toList_map]; exact List.map_congr_left fun p q=>(hm p q).1.symm
 rw [e]
 refine ⟨?_,?_⟩
 ·have:=hl.map Prod.fst
  rwa [List.map_fst_zip (Nat.le_refl _)] at this
 ·rw [List.pairwise_map,List.pairwise_iff_getElem]
  intro i j hi hj hij
  rw [Array.length_toList] at hi hj
  have:=hs i j (Nat.zero_le _) (Nat.le_of_lt hij) (by rw [← hp.size_eq]; exact hj)
  rwa [bp (κ:=fun p=>κ p.1) (Array.getElem?_eq_getElem hi),bp (κ:=fun p=>κ p.1) (Array.getElem?_eq_getElem hj)] at this
theorem jS {a:Addr} {vs:List Value} {n:Nat} {P:Fin→Shared→Prop} (ho:s.heap.get? a=some (seqObj "list" vs.toArray n)) (hlen:vs.length≤16000000)
  (hK: ∀ s',Old s a s'→2≤vs.length→wpAny (model prog w) A (keyKind' vs.toArray) (fun k s''=>k=kd∧s''=s') E s')
  (hL: ∀ s',Old s a s'→pQ prog w A E s' kd (fun p=>κ p.1) (pairsOf vs))
  (h: ∀ out:Array Value,out.toList.Perm vs→(out.toList.Pairwise fun x y=>κ x≤κ y)→P (.done (.ret .none)) { s with heap:=sortedHeap s.heap a vs out }):
  wpAny (model prog w) A (Builtin.«list.sort» ⟨[.ref a],[]⟩) P E s:=by
 rw [list_sort_plain]
 have ha:a < s.heap.objs.size:=Heap.lt_size ho
 refine wpAny_bind (listItems_at ho rfl ?_)
 refine wpAny_bind (listUpdate_at ho rfl ?_ (by rw [sizeLine_eq]; simp; exact lin [_] [(1,.v 0,.n 16000000)] 1 (.v 0) (.n 16777216) rfl hlen))
 obtain ⟨e1,ho1⟩: ∃ e1,(s.heap.update a (Obj.mapSeq fun _=>#[])).get? a=some (seqObj "list" #[] e1):=⟨_,get?_update_seq ho (fun _=>#[])⟩
 refine wpAny_bind (seqEpoch_at ho1 rfl ?_)
 refine wpAny_bind (wpAny_newTuple ?_ (by rw [sizeLine_eq]; simp; exact lin [_] [(1,.v 0,.n 16000000)] 1 (.v 0) (.n 16777216) rfl hlen))
 refine wpAny_bind (wpAny_newList ?_)
 refine wpAny_holding ?_
 have old: ∀ (b:Addr),b < s.heap.objs.size→((((s.heap.update a (Obj.mapSeq fun _=>#[])).push (seqObj "tuple" vs.toArray 0)).push (seqObj "list" #[] 0))).get? b=(s.heap.update a (Obj.mapSeq fun _=>#[])).get? b:=fun b hb=>by
  rw [Heap.get?_push_ne _ _ _ (by rw [size_push',Heap.size_update]; exact Nat.ne_of_lt (Nat.lt_succ_of_lt hb)),Heap.get?_push_ne _ _ _ (by rw [Heap.size_update]; exact Nat.ne_of_lt hb)]
 have ho6:=(old a ha).trans ho1
 have hold:Old s a { s with heap:=((s.heap.update a (Obj.mapSeq fun _=>#[])).push (seqObj "tuple" vs.toArray 0)).push (seqObj "list" #[] 0)}:=fun b o hb hg=>
  (old b (Heap.lt_size hg)).trans (by rw [Heap.get?_update_ne _ _ _ _ hb]; exact hg)
 show wpAny (model prog w) A _ P E { s with heap:=((s.heap.update a (Obj.mapSeq fun _=>#[])).push (seqObj "tuple" vs.toArray 0)).push (seqObj "list" #[] 0)}
 dsimp only
 have fin: ∀ st':SortSt,(arrOf st').Perm (pairsOf vs)→Seg (fun p=>κ p.1) (arrOf st') 0 (pairsOf vs).size→
   P (.done (.ret .none)) { s with heap:=sortedHeap s.heap a vs ((arrOf st').map (·.2))}:=fun st' hp hs=>h _ (eo hp hs).1 (eo hp hs).2
 by_cases h2:vs.toArray.size < 2
 ·rw [if_pos h2,if_pos h2]
  refine wpAny_bind (wpAny_pure ?_)
  rw [StateT.run_pure]
  refine wpAny_bind (wpAny_pure ?_)
  dsimp only
  refine wpAny_bind (seqEpoch_at ho6 rfl ?_)
  refine wpAny_bind (listUpdate_at ho6 rfl ?_ (hsz2:=by rw [Array.size_map]; show (pairsOf vs).size≤_; rw [pairsOf_size,sizeLine_eq]; exact lin [_] [(1,.v 0,.n 16000000)] 1 (.v 0) (.a (.n 16777216) (.n 1)) rfl hlen))
  simp only [bne_self_eq_false,Bool.false_eq_true,if_false]
  refine wpAny_pure (fin (SortSt.mk' general' (vs.toArray.zip vs.toArray) #[] 7 none) (Array.Perm.refl _) ?_)
  intro i j _ hij hj
  have:i=j:=by rw [pairsOf_size] at hj; rw [List.size_toArray] at h2; exact l_a (hij) (li [j,i,_] [([3,0],[0,0]),([1,0],[3])] [1] [2] rfl h2 hj)
  subst this; exact Int.le_refl _
 ·rw [if_neg h2,if_neg h2]
  refine wpAny_bind (wpAny_mono (hK _ hold (by rw [List.size_toArray] at h2; exact (l_t h2))) ?_ fun _ _ e=>e)
  rintro kd _ ⟨rfl,rfl⟩
  refine wpAny_bind (wpAny_mono (sF (a₀:=pairsOf vs) (st:=SortSt.mk' kd (vs.toArray.zip vs.toArray) #[] 7 none)
   (Q:=fun _ st'=>(arrOf st').Perm (pairsOf vs)∧failedOf st'=none∧Seg (fun p=>κ p.1) (arrOf st') 0 (pairsOf vs).size)
   (hL _ hold) ⟨Array.Perm.refl _,rfl,rfl⟩ rfl fun st' a1 a2=>⟨a1.perm,a1.failed,a2⟩) ?_ fun _ _ e=>e)
  rintro ⟨⟨⟩,st'⟩ s' ⟨rfl,hp,hf,hs⟩
  dsimp only
  refine wpAny_bind (seqEpoch_at ho6 rfl ?_)
  refine wpAny_bind (listUpdate_at ho6 rfl ?_ (hsz2:=by refine Nat.le_trans (Nat.le_of_eq ((Array.size_map ..).trans (hp.size_eq.trans (pairsOf_size _)))) ?_; rw [sizeLine_eq]; exact lin [_] [(1,.v 0,.n 16000000)] 1 (.v 0) (.a (.n 16777216) (.n 1)) rfl hlen))
  rw [hf]
  simp only [bne_self_eq_false,Bool.false_eq_true,if_false]
  exact wpAny_pure (fin st' hp hs)
theorem qp {x:Value} {G:List Value→Prop} {Q:Value→Shared→Prop}
  (hc: ∀ R:List Value→Shared→Prop,(∀ vs h' tk,(∀ b o,s.heap.get? b=some o→h'.get? b=some o)→G vs→R vs { s with heap:=h',toks:=tk })→wpAny (model prog w) A.in1 (collect x) R E s)
  (hlen: ∀ vs,G vs→vs.length≤16000000)
  (hK: ∀ vs,G vs→∀ s',(∀ b o,s.heap.get? b=some o→s'.heap.get? b=some o)→2≤vs.length→wpAny (model prog w) A.in1.in1 (keyKind' vs.toArray) (fun k s''=>k=kd∧s''=s') E s')
  (hL: ∀ vs,G vs→∀ s',(∀ b o,s.heap.get? b=some o→s'.heap.get? b=some o)→pQ prog w A.in1.in1 E s' kd (fun p=>κ p.1) (pairsOf vs))
  (h: ∀ (vs:List Value) (out:Array Value) h' tk a,G vs→out.toList.Perm vs→(out.toList.Pairwise fun x y=>κ x≤κ y)→(∀ b o,s.heap.get? b=some o→h'.get? b=some o)→s.heap.get? a=none→(∃ e,h'.get? a=some (seqObj "list" out e))→Q (.ref a) { s with heap:=h',toks:=tk }):
  wpAny (model prog w) A (call (.builtin "sorted") [x]) Q E s:=by
 refine Calls.call_function_entry kind_sorted plain_sorted entry_sorted (args_sorted1 _) ?_
 unfold Builtin.«sorted»
 refine wpAny_bind (m:=checkCount "sorted" 1 1 _) (wpAny_pure ?_)
 refine wpAny_bind (hc _ fun vs h' tk kp g=>?_)
 have hl:=hlen vs g
 refine wpAny_bind (wpAny_newList ?_ (by rw [sizeLine_eq]; exact lin [_] [(1,.v 0,.n 16000000)] 1 (.v 0) (.n 16777216) rfl hl))
 have hoL:(h'.push (seqObj "list" vs.toArray 0)).get? h'.objs.size=some (seqObj "list" vs.toArray 0):=Heap.get?_push_size _ rfl
 have old: ∀ b o,s.heap.get? b=some o→b≠h'.objs.size∧(h'.push (seqObj "list" vs.toArray 0)).get? b=some o:=fun b o hb=>
  ⟨Nat.ne_of_lt (Heap.lt_size (kp b o hb)),Heap.get?_push_of_some _ (kp b o hb)⟩
 show wpAny _ _ _ _ _ { s with heap:=h'.push (seqObj "list" vs.toArray 0),toks:=tk }
 refine wpAny_bind (wpAny_holding (wpAny_call_entry slot_list_sort ⟨_,hoL,rfl⟩ entry_list_sort (jS (κ:=κ) hoL hl (fun s' q=>hK vs g s' fun b o hb=>q b o (old b o hb).1 (old b o hb).2) (fun s' q=>hL vs g s' fun b o hb=>q b o (old b o hb).1 (old b o hb).2) fun out a1 a2=>⟨_,rfl,?_⟩) (args_list_sort _)))
 refine wpAny_pure ⟨_,rfl,h vs out _ _ _ g a1 a2 (fun b o hb=>?_) ?_ (sortedHeap_at hoL)⟩
 ·rw [sortedHeap_old (old b o hb).1 (Heap.lt_size (old b o hb).2)]; exact (old b o hb).2
 ·cases e:s.heap.get? h'.objs.size with
  | none=>rfl
  | some o=>exact absurd (Heap.lt_size (kp _ _ e)) (Nat.lt_irrefl _)
end
end
end Mine
set_option maxRecDepth 100000
namespace Mine
noncomputable section
open PySem PySem.W PyProof.Rows
noncomputable def rC (K:Frag) (D:Addr):Bool:=
 findIn K (.ref D) "__getattribute__" == some (some (.builtin "BaseException.__getattribute__")) && findIn K (.ref D) "__getattr__" == some none && (clsIn K D).isSome &&
 findIn K (.ref D) "__class__" == some (some (.builtin "object.__class__")) && specialIn K (.builtin "object.__class__") "__get__" == some (some (.builtin "getset_descriptor.__get__")) && takesIn K (.builtin "object.__class__") == some true &&
 mroIn K D (.type "object") == some true && subIn K (.ref D) (.type "BaseException") == some true
section
variable {prog:Program} {w:World} {A:Around} {E:Value→Shared→Prop} {s:Shared} {K:Frag} {x D:Addr} {ox:Obj}
noncomputable def eW (K:Frag) (D C:Addr):Bool:=(clsIn K C).isSome && instIn K (.ref C) (.type "tuple") == some false && subIn K (.ref C) (.type "BaseException") == some true && subIn K (.ref D) (.ref C) == some true
theorem mD {M:Model} {C:Addr} {Q:Bool→Shared→Prop} (X:K.In s.heap) (I:InstAt s.heap x ox D none) (e:eW K D C=true) (h:Q true s):wpAny M A (excMatches (.ref x) (.ref C)) Q E s:=by
 simp only [eW,Bool.and_eq_true,beq_iff_eq] at e
 obtain ⟨⟨⟨e0,e1⟩,e2⟩,e3⟩:=e
 have L0:=looks_instIn (M:=M) X e1
 have L1:=looks_subIn (M:=M) X e2
 have L2:=looks_subIn (M:=M) X e3
 have L3:=I.type (M:=M)
 have L4:Looks M s.heap (isType (.ref C)) true:=by
  obtain ⟨cdD,hcD⟩:=Option.isSome_iff_exists.mp e0
  unfold clsIn at hcD
  split at hcD
  ·rename_i c' d' cd' sl' ho
   intro A' Q' E' s' k q
   unfold isType loadHead
   exact wpAny_bind (wpAny_loadPart (k _ _ (X _ _ ho)) (wpAny_pure q))
  ·cases hcD
 obtain ⟨hh,gg,d,t,os⟩:=s
 unfold excMatches
 with_reducible refine wpAny_bind ?_
 refine L0.at ?_
 simp only [Bool.false_eq_true,if_false]
 repeat (any_goals (first | assumption | lk))
end
end
noncomputable section
open PySem
inductive V where
 | none
 | bool (b:Bool)
 | int (i:Int)
 | str (s:List Nat)
 | tup (vs:List V)
 | lst (vs:List V)
 | rng (a b c:Int)
 | loc (i:Nat)
inductive BN where
 | len | str | int | range | list | sorted | max | min
inductive MN where
 | append | startswith | pop | index | split | join | get | extend
noncomputable def BN.name (f:BN):String:=BN.rec "len" "str" "int" "range" "list" "sorted" "max" "min" f
noncomputable def MN.name (f:MN):String:=MN.rec "append" "startswith" "pop" "index" "split" "join" "get" "extend" f
inductive HO where
 | list (vs:List V)
 | inst (c:String)
 | obj (j:Nat)
 | attrs (fs:List (String×V))
 | dictS (kvs:List (List Nat×V))
 | dead
structure St where
 s:String→Option V
 H:List HO
noncomputable def St.set (st:St) (x:String) (v:V):St:=⟨fun y=>if y=x then some v else st.s y,st.H⟩
noncomputable def St.unset (st:St) (x:String):St:=⟨fun y=>if y=x then .none else st.s y,st.H⟩
inductive Flow where
 | next | brk | cont
 | ret (v:V)
set_option genCtorIdx false in
set_option genInjectivity false in
mutual
inductive E where
 | stuck | omit
 | none | bool (b:Bool) | int (i:Int) | str (s:List Nat)
 | var (x:String)
 | glo (x:String)
 | tup (es:Es)
 | list (es:Es)
 | bin (op:Operator) (a b:E)
 | neg (a:E)
 | not (a:E)
 | and (es:Es)
 | or (es:Es)
 | cmp (op:CmpOp) (a b:E)
 | cmp2 (op op':CmpOp) (a b c:E)
 | idx (a i:E)
 | slc (a lo hi:E)
 | call (f:String) (es:Es)
 | blt (f:BN) (es:Es)
 | isi (a:E) (t:String)
 | mth (m:MN) (a:E) (es:Es)
 | comp (elt:E) (x:String) (it:E)
 | compIf (elt:E) (x:String) (it:E) (c:E)
 | compX (elt:E) (x:String) (it:E)
 | isiS (a:E)
 | attr (a:E) (x:String)
 | mcall (f m:String) (a:E) (es:Es)
 | make (es:Es)
 | dict
inductive Es where
 | nil
 | cons (e:E) (es:Es)
end
set_option genCtorIdx false in
set_option genInjectivity false in
mutual
inductive S where
 | stuck
 | ex (e:E)
 | asg (x:String) (e:E)
 | asgSub (o i e:E)
 | ite (c:E) (t f:Ss)
 | whl (c:E) (b:Ss)
 | for_ (x:String) (it:E) (b:Ss)
 | ret (e:E)
 | cont
 | pass
 | raise (cls:String)
 | try_ (b:Ss) (c:String) (x:Option String) (h:Ss)
 | asgAttr (o:E) (x:String) (e:E)
inductive Ss where
 | nil
 | cons (s:S) (ss:Ss)
end
noncomputable def E.isOmit:E→Bool
 | .omit=>true
 | _=>false
noncomputable def V.flat:V→Bool
 | .none=>true
 | .bool _=>true
 | .int _=>true
 | .str _=>true
 | _=>false
noncomputable def V.parts:V→Option (List V)
 | .tup vs=>some vs
 | .lst vs=>some vs
 | _=>.none
noncomputable def pl:Nat→V→Bool
 | 0,v=>v.flat
 | n+1,v=>v.flat || v.parts.any fun vs=>vs.all (pl n)
mutual
noncomputable def pU:V→PyData
 | .none=>.none
 | .bool b=>.bool b
 | .int i=>.int i
 | .str cs=>.str ⟨cs.toArray⟩
 | .tup vs=>.tuple (ew vs)
 | .lst vs=>.list (ew vs)
 | .rng _ _ _=>.none
 | .loc _=>.none
noncomputable def ew:List V→List PyData
 | []=>[]
 | v::vs=>pU v::ew vs
end
noncomputable def eqB (a b:V):Bool:=PyData.eqv (pU a) (pU b)
noncomputable def V.num:V→Option Int
 | .int i=>some i
 | _=>.none
noncomputable def V.txt:V→Option (List Nat)
 | .str s=>some s
 | _=>.none
noncomputable def V.tupP:V→Option (List V)
 | .tup vs=>some vs
 | _=>.none
mutual
noncomputable def leV:V→V→Bool
 | .int i=>fun b=>b.num.any fun j=>decide (i≤j)
 | .str s=>fun b=>b.txt.any fun t=>decide (s≤t)
 | .tup vs=>fun b=>b.tupP.any fun us=>CD vs us
 | .none=>fun _=>false
 | .bool _=>fun _=>false
 | .lst _=>fun _=>false
 | .rng _ _ _=>fun _=>false
 | .loc _=>fun _=>false
noncomputable def CD:List V→List V→Bool
 | []=>fun _=>true
 | v::vs=>fun us=>us.head?.any fun u=>if eqB v u then CD vs us.tail else leV v u
end
noncomputable def ak (H:List HO):Prop:=∀ c:String,HO.inst c ∉ H
inductive gc (H:List HO):V→List V→Prop
 | lst (vs:List V):gc H (.lst vs) vs
 | loc {i:Nat} {vs:List V}:H[i]?= some (.list vs)→gc H (.loc i) vs
inductive mW (H:List HO):V→V→Prop
 | self (v:V):mW H v v
 | loc {i:Nat} {vs:List V}:H[i]?= some (.list vs)→mW H (.loc i) (.lst vs)
noncomputable def cz (a b c:Int):List Int:=(List.range ((b - a+c - 1) / c).toNat).map fun (k:Nat)=>a+c*(k:Int)
inductive dQ:V→List V→Prop
 | rng {a b c:Int}:(0 < c∧c≤1000000)→(-1000000≤a∧a≤1000000)→(-1000000≤b∧b≤1000000)→dQ (.rng a b c) ((cz a b c).map .int)
 | lst (vs:List V):dQ (.lst vs) vs
 | str (cs:List Nat):dQ (.str cs) (cs.map fun c=>.str [c])
noncomputable def kO (vs:List V) (st:St) (Q:V→St→Prop):Prop:=Q (.lst vs) st∨Q (.loc st.H.length) ⟨st.s,st.H++[.list vs]⟩
noncomputable def Ee (v:V) (st:St) (Q:V→St→Prop):Prop:=Q v st∨∃ (i:Nat) (vs:List V),v=.loc i∧st.H[i]?= some (.list vs)∧Q (.lst vs) ⟨st.s,st.H.set i .dead⟩
inductive Bin:Operator→V→V→V→Prop
 | add (a b:Int):Bin .Add (.int a) (.int b) (.int (a+b))
 | sub (a b:Int):Bin .Sub (.int a) (.int b) (.int (a - b))
 | mul {a b:Int}:a.natAbs < 2 ^ 63∨b.natAbs < 2 ^ 63→Bin .Mult (.int a) (.int b) (.int (a*b))
 | div {a b:Int}:0 < b→b < 2 ^ 29→Bin .FloorDiv (.int a) (.int b) (.int (a / b))
 | mod {a b:Int}:0 < b→Bin .Mod (.int a) (.int b) (.int (a % b))
 | pow {a b:Int}:0≤b→b≤1000→a.natAbs < 2 ^ 63→Bin .Pow (.int a) (.int b) (.int (a ^ b.toNat))
 | cat {a b:List Nat}:a.length+b.length≤16000000→Bin .Add (.str a) (.str b) (.str (a++b))
inductive IsR:V→V→Bool→Prop
 | nn:IsR .none .none true
 | xn {v:V}:v≠.none→IsR v .none false
inductive InR (H:List HO):V→V→Bool→Prop
 | int {i:Int} {o:V} {ns:List Int}:gc H o (ns.map .int)→InR H (.int i) o (decide (i∈ns))
 | sign (c:Nat) (cs:List Nat):InR H (.str [c]) (.str cs) (decide (c∈cs))
 | txt {s:List Nat} {o:V} {ss:List (List Nat)}:gc H o (ss.map .str)→InR H (.str s) o (decide (s∈ss))
inductive Cmp (H:List HO):CmpOp→V→V→Bool→Prop
 | lt (a b:Int):Cmp H .Lt (.int a) (.int b) (decide (a < b))
 | le (a b:Int):Cmp H .LtE (.int a) (.int b) (decide (a≤b))
 | gt (a b:Int):Cmp H .Gt (.int a) (.int b) (decide (b < a))
 | ge (a b:Int):Cmp H .GtE (.int a) (.int b) (decide (b≤a))
 | geS (a b:List Nat):Cmp H .GtE (.str a) (.str b) (decide (b≤a))
 | eq {a b a' b':V}:mW H a a'→mW H b b'→pl 6 a'=true→pl 6 b'=true→Cmp H .Eq a b (eqB a' b')
 | ne {a b a' b':V}:mW H a a'→mW H b b'→pl 6 a'=true→pl 6 b'=true→Cmp H .NotEq a b (!eqB a' b')
 | is {a b:V} {r:Bool}:IsR a b r→Cmp H .Is a b r
 | isNot {a b:V} {r:Bool}:IsR a b r→Cmp H .IsNot a b (!r)
 | inn {a b:V} {r:Bool}:InR H a b r→Cmp H .In a b r
 | nin {a b:V} {r:Bool}:InR H a b r→Cmp H .NotIn a b (!r)
inductive Idx (H:List HO):V→V→V→Prop
 | seq {a v:V} {xs:List V} {i:Int}:gc H a xs→0≤i→xs[i.toNat]?= some v→Idx H a (.int i) v
 | tup {v:V} {xs:List V} {i:Int}:0≤i→xs[i.toNat]?= some v→Idx H (.tup xs) (.int i) v
 | str {cs:List Nat} {c:Nat} {i:Int}:0≤i→cs[i.toNat]?= some c→Idx H (.str cs) (.int i) (.str [c])
 | keyS {s:List Nat} {v:V} {i:Nat} {kvs:List (List Nat×V)}:H[i]?= some (.dictS kvs)→kvs.lookup s=some v→Idx H (.loc i) (.str s) v
noncomputable def nF {α:Type} [DecidableEq α] (k:α) (v:V) (kvs:List (α×V)):List (α×V):=if k∈kvs.map (·.1) then kvs.map fun p=>if p.1=k then (p.1,v) else p else kvs++[(k,v)]
noncomputable def sA (x:String) (v:V):List (String×V)→List (String×V)
 | []=>[(x,v)]
 | p::r=>if p.1=x then (p.1,v)::r else p::sA x v r
noncomputable def bf (sep:List Nat):List (List Nat)→List Nat
 | []=>[]
 | p::ps=>p++ps.flatMap fun q=>sep++q
noncomputable def xx (cs:List Nat):Nat:=cs.foldl (fun a c=>a*10+(c - 48)) 0
noncomputable def BW (cs:List Nat):Prop:=∀ c∈cs,48≤c∧c≤57
noncomputable def cut (n:Nat) (i:Int):Nat:=if i < 0 then (i+n).toNat else min i.toNat n
noncomputable def slice {α:Type} (xs:List α) (lo hi:Nat):List α:=(xs.take hi).drop lo
noncomputable def iM (n:Nat) (l:Option Int):Nat:=l.elim 0 (cut n)
noncomputable def iU (n:Nat) (h:Option Int):Nat:=h.elim n (cut n)
noncomputable def wY (v:V) (l h:Option Int) (st:St) (Q:V→St→Prop):Prop:=
 (∃ cs,v=.str cs∧Q (.str (slice cs (iM cs.length l) (iU cs.length h))) st)∨∃ xs,gc st.H v xs∧kO (slice xs (iM xs.length l) (iU xs.length h)) st Q
inductive sD (H:List HO):V→String→Prop
 | int (i:Int):sD H (.int i) "int"
 | bool (b:Bool):sD H (.bool b) "bool"
 | str (s:List Nat):sD H (.str s) "str"
 | none:sD H .none "NoneType"
 | tup (vs:List V):sD H (.tup vs) "tuple"
 | seq {v:V} {vs:List V}:gc H v vs→sD H v "list"
noncomputable def sy (X T:String):Bool:=X == T || (X == "bool" && T == "int")
noncomputable def ar (i:Int):List Nat:=(toString i).toList.map Char.toNat
inductive zB (H:List HO):V→Nat→Prop
 | str (s:List Nat):zB H (.str s) s.length
 | tup (vs:List V):zB H (.tup vs) vs.length
 | seq {v:V} {vs:List V}:gc H v vs→zB H v vs.length
inductive Blt (H:List HO):BN→List V→V→Prop
 | len {v:V} {n:Nat}:zB H v n→Blt H .len [v] (.int n)
 | str {i:Int}:i.natAbs < 10 ^ 100→Blt H .str [.int i] (.str (ar i))
 | int (b:Bool):Blt H .int [.bool b] (.int (if b then 1 else 0))
 | intT {cs:List Nat}:BW cs→cs≠[]→cs.length≤300→Blt H .int [.str cs] (.int (xx cs))
 | intN {cs:List Nat}:BW cs→cs≠[]→cs.length≤300→Blt H .int [.str (45::cs)] (.int (-(xx cs:Int)))
 | max1 {v:V} {ns:List Int} {m:Int}:ak H→gc H v (ns.map .int)→m∈ns→(∀ n∈ns,n≤m)→Blt H .max [v] (.int m)
 | min2 (a b:Int):ak H→Blt H .min [.int a,.int b] (.int (min a b))
 | range1 (b:Int):Blt H .range [.int b] (.rng 0 b 1)
 | range2 (a b:Int):Blt H .range [.int a,.int b] (.rng a b 1)
inductive ee:List V→Prop
 | nums {xs:List V}:(∀ v∈xs,∃ i,v=.int i)→ee xs
 | txts {xs:List V}:(∀ v∈xs,∃ s,v=.str s)→ee xs
 | duos {xs:List V}:(∀ v∈xs,∃ i j,v=.tup [.int i,.int j])→ee xs
 | trip {xs:List V}:(∀ v∈xs,∃ i j k,v=.tup [.int i,.tup [.int j,.int k]])→ee xs
inductive zC (H:List HO):BN→List V→List V→Prop
 | list {v:V} {xs:List V}:gc H v xs→zC H .list [v] xs
 | listS {i:Nat} {kvs:List (List Nat×V)}:ak H→H[i]?= some (.dictS kvs)→zC H .list [.loc i] (kvs.map fun p=>.str p.1)
 | sorted {v:V} {xs ys:List V}:gc H v xs→ee xs→xs.length≤1000000→ys.Perm xs→(ys.Pairwise fun a b=>leV a b=true)→zC H .sorted [v] ys
noncomputable def CO (f:BN) (vs:List V) (st:St) (Q:V→St→Prop):Prop:=(∃ v,Blt st.H f vs v∧Q v st)∨∃ xs,zC st.H f vs xs∧kO xs st Q
inductive R where
 | ok (v:V)
 | err (c:String)
abbrev Orc:=String→List V→List HO→R→List HO→Prop
inductive Rcv (H:List HO):V→MN→Prop
 | append {v:V} {vs:List V}:gc H v vs→Rcv H v .append
 | starts (s:List Nat):Rcv H (.str s) .startswith
 | pop {v:V} {vs:List V}:gc H v vs→Rcv H v .pop
 | split (s:List Nat):Rcv H (.str s) .split
 | join (s:List Nat):Rcv H (.str s) .join
inductive Mth (H:List HO):MN→V→List V→V→Prop
 | starts (a b:List Nat):Mth H .startswith (.str a) [.str b] (.bool (b.isPrefixOf a))
 | join {sep:List Nat} {v:V} {ss:List (List Nat)}:gc H v (ss.map .str)→(bf sep ss).length+(ss.length+1)*(sep.length+1)≤16000000→Mth H .join (.str sep) [v] (.str (bf sep ss))
inductive BU:MN→V→List V→List V→Prop
 | split {x:List Nat} {c:Nat} {ps:List (List Nat)}:x.length≤16000000→ps≠[]→bf [c] ps=x→(∀ p∈ps,c ∉ p)→BU .split (.str x) [.str [c]] (ps.map .str)
noncomputable def CC (m:MN) (o:V) (vs:List V) (st:St) (Q:V→St→Prop):Prop:=
 (∃ v,Mth st.H m o vs v∧Q v st)∨
 (∃ (i:Nat) (xs:List V) (v:V),(m=.append∧o=.loc i∧vs=[v])∧st.H[i]?= some (.list xs)∧xs.length < 16000000∧Q .none ⟨st.s,st.H.set i (.list (xs++[v]))⟩)∨
 (∃ (i:Nat) (xs:List V) (v:V),(m=.pop∧o=.loc i∧vs=[])∧st.H[i]?= some (.list (xs++[v]))∧Q v ⟨st.s,st.H.set i (.list xs)⟩)∨
 (∃ xs,BU m o vs xs∧kO xs st Q)∨
 False
noncomputable def fK (f:V→St→(List V→St→Prop)→Prop):List V→List V→St→(List V→St→Prop)→Prop
 | []=>fun acc st K=>K acc st
 | v::r=>fun acc st K=>f v st fun a st'=>fK f r (acc++a) st' K
noncomputable def BI (f:V→St→(List V→St→Prop)→Prop) (vi:V) (st:St) (Q:V→St→Prop):Prop:=
 (∃ items,dQ vi items∧fK f items [] st fun out st=>kO out st Q)∨
 ∃ (i:Nat) (items:List V),vi=.loc i∧st.H[i]?= some (.list items)∧fK f items [] ⟨st.s,st.H.set i .dead⟩ fun out st'=>kO out st' fun v st''=>st''.H[i]?= some .dead∧Q v ⟨st''.s,st''.H.set i (.list items)⟩
noncomputable def wv (Q:Flow→St→Prop) (K:St→Prop) (f:Flow) (st:St):Prop:=(f=.next∧K st)∨(f=.cont∧K st)∨(f=.brk∧Q .next st)∨∃ v,f=.ret v∧Q (.ret v) st
noncomputable def tC (f:V→St→(Flow→St→Prop)→Prop):List V→St→(Flow→St→Prop)→Prop
 | []=>fun st Q=>Q .next st
 | v::r=>fun st Q=>f v st (wv Q fun st'=>tC f r st' Q)
noncomputable def nc (t:St→(Bool→St→Prop)→Prop) (f:St→(Flow→St→Prop)→Prop):Nat→St→(Flow→St→Prop)→Prop
 | 0=>fun _ _=>False
 | n+1=>fun st Q=>t st fun b st'=>(b=true∧f st' (wv Q fun st''=>nc t f n st'' Q))∨(b=false∧Q .next st')
noncomputable def walkW {β:Type} (v:V) (st:St) (loop:List V→St→(β→St→Prop)→Prop) (K:β→St→Prop):Prop:=
 (∃ items,dQ v items∧loop items st K)∨
 False
inductive BX (H:List HO):V→String→Prop
 | mk {i:Nat} {c:String}:H[i]?= some (.inst c)→BX H (.loc i) c
noncomputable def eM (h c:String):Bool:=h == c || h == "RoomError"
inductive fn (H:List HO):V→Nat→List (String×V)→Prop
 | mk {i j:Nat} {fs:List (String×V)}:H[i]?= some (.obj j)→H[j]?= some (.attrs fs)→fn H (.loc i) j fs
mutual
noncomputable def low (n:Nat):V→Prop
 | .loc i=>i < n
 | .tup vs=>lows n vs
 | .lst vs=>lows n vs
 | _=>True
noncomputable def lows (n:Nat):List V→Prop
 | []=>True
 | v::vs=>low n v∧lows n vs
end
noncomputable def lowO (n:Nat):HO→Prop
 | .list vs=>lows n vs
 | .obj j=>j < n
 | .attrs fs=>lows n (fs.map (·.2))
 | .dictS kvs=>lows n (kvs.map (·.2))
 | _=>True
noncomputable def AD (n:Nat):Flow→Prop
 | .ret v=>low n v
 | _=>True
open Classical in
noncomputable def St.cut (st:St) (n:Nat):St:=⟨fun y=>(st.s y).bind fun v=>if low n v then some v else .none,st.H.take n⟩
noncomputable def St.exc (st:St) (c:String) (x:Option String):St:=x.elim ⟨st.s,st.H++[.inst c]⟩ fun y=>(St.mk st.s (st.H++[.inst c])).set y (.loc st.H.length)
noncomputable def St.unx (st:St) (x:Option String):St:=x.elim st st.unset
section
variable (Φ:Orc) (G:String→Option V)
mutual
noncomputable def wE:E→St→(V→St→Prop)→(String→St→Prop)→Prop
 | .stuck=>fun _ _ _=>False
 | .omit=>fun _ _ _=>False
 | .none=>fun st Q _=>Q .none st
 | .bool b=>fun st Q _=>Q (.bool b) st
 | .int i=>fun st Q _=>Q (.int i) st
 | .str s=>fun st Q _=>Q (.str s) st
 | .var x=>fun st Q _=>∃ v,st.s x=some v∧Ee v st Q
 | .glo x=>fun st Q _=>∃ v,G x=some v∧Q v st
 | .tup es=>fun st Q X=>wEs es st (fun vs st=>Q (.tup vs) st) X
 | .list es=>fun st Q X=>wEs es st (fun vs st=>kO vs st Q) X
 | .bin op a b=>fun st Q X=>wE a st (fun va st=>wE b st (fun vb st=>(∃ v,Bin op va vb v∧Q v st)∨
   ∃ xs ys,op=.Add∧gc st.H va xs∧gc st.H vb ys∧xs.length+ys.length≤16000000∧kO (xs++ys) st Q) X) X
 | .neg a=>fun st Q X=>wE a st (fun v st=>∃ i,v=.int i∧Q (.int (-i)) st) X
 | .not a=>fun st Q X=>wE a st (fun v st=>∃ b,v=.bool b∧Q (.bool (!b)) st) X
 | .and es=>fun st Q X=>wW es st Q X
 | .or es=>fun st Q X=>wOr es st Q X
 | .cmp op a b=>fun st Q X=>wE a st (fun va st=>wE b st (fun vb st=>∃ r,Cmp st.H op va vb r∧Q (.bool r) st) X) X
 | .cmp2 op op' a b c=>fun st Q X=>wE a st (fun va st=>wE b st (fun vb st=>∃ r,Cmp st.H op va vb r∧
   ((r=true∧wE c st (fun vc st=>∃ r',Cmp st.H op' vb vc r'∧Q (.bool r') st) X)∨(r=false∧Q (.bool false) st))) X) X
 | .idx a i=>fun st Q X=>wE a st (fun va st=>wE i st (fun vi st=>∃ v,Idx st.H va vi v∧Q v st) X) X
 | .slc a lo hi=>fun st Q X=>wE a st (fun va st=>
   (lo.isOmit=true∧((hi.isOmit=true∧wY va .none .none st Q)∨(hi.isOmit=false∧wE hi st (fun h st=>∃ j,h=.int j∧wY va .none (some j) st Q) X)))∨
   (lo.isOmit=false∧wE lo st (fun l st=>∃ i,l=.int i∧((hi.isOmit=true∧wY va (some i) .none st Q)∨(hi.isOmit=false∧wE hi st (fun h st=>∃ j,h=.int j∧wY va (some i) (some j) st Q) X))) X)) X
 | .call f es=>fun st Q X=>wEs es st (fun vs st=>(∃ v H',Φ f vs st.H (.ok v) H'∧Q v ⟨st.s,H'⟩)∨∃ c H',Φ f vs st.H (.err c) H'∧X c ⟨st.s,H'⟩) X
 | .blt f es=>fun st Q X=>wEs es st (fun vs st=>CO f vs st Q) X
 | .isi a t=>fun st Q X=>wE a st (fun v st=>∃ k,sD st.H v k∧Q (.bool (sy k t)) st) X
 | .mth m a es=>fun st Q X=>wE a st (fun o st=>Rcv st.H o m∧wEs es st (fun vs st=>CC m o vs st Q) X) X
 | .comp elt x it=>fun st Q X=>wE it st (fun vi st=>∃ items,dQ vi items∧fK (fun v st₁ K=>wE elt (st₁.set x v) (fun r st'=>K [r] ⟨st₁.s,st'.H⟩) fun _ _=>False) items [] st fun out st=>kO out st Q) X
 | .compIf elt x it c=>fun st Q X=>wE it st (fun vi st=>∃ items,dQ vi items∧fK (fun v st₁ K=>wE c (st₁.set x v) (fun b st'=>(b=.bool true∧wE elt st' (fun r st'=>K [r] ⟨st₁.s,st'.H⟩) fun _ _=>False)∨(b=.bool false∧K [] ⟨st₁.s,st'.H⟩)) fun _ _=>False)
    items [] st fun out st=>kO out st Q) X
 | .compX elt x it=>fun st Q X=>wE it st (fun vi st=>BI (fun v st₁ K=>wE elt (st₁.set x v) (fun r st'=>K [r] ⟨st₁.s,st'.H⟩) fun _ _=>False) vi st Q) X
 | .isiS a=>fun st Q X=>wE a st (fun v st=>∃ j fs,fn st.H v j fs∧Q (.bool true) st) X
 | .attr a x=>fun st Q X=>wE a st (fun v st=>∃ j fs u,fn st.H v j fs∧fs.lookup x=some u∧Q u st) X
 | .mcall f m a es=>fun st Q X=>wE a st (fun o st=>(∃ j fs,fn st.H o j fs∧fs.lookup m=.none)∧wEs es st (fun vs st=>(∃ v H',Φ f (o::vs) st.H (.ok v) H'∧Q v ⟨st.s,H'⟩)∨∃ c H',Φ f (o::vs) st.H (.err c) H'∧X c ⟨st.s,H'⟩) X) X
 | .make es=>fun st Q X=>wEs es st (fun vs st=>(∃ H',Φ "Store.__init__" (.loc (st.H.length+1)::vs) (st.H++[.attrs []]++[.obj st.H.length]) (.ok .none) H'∧Q (.loc (st.H.length+1)) ⟨st.s,H'⟩)∨
   ∃ c H',Φ "Store.__init__" (.loc (st.H.length+1)::vs) (st.H++[.attrs []]++[.obj st.H.length]) (.err c) H'∧H'.take st.H.length=st.H∧X c st) X
 | .dict=>fun st Q _=>Q (.loc st.H.length) ⟨st.s,st.H++[.dictS []]⟩
noncomputable def wEs:Es→St→(List V→St→Prop)→(String→St→Prop)→Prop
 | .nil=>fun st Q _=>Q [] st
 | .cons e es=>fun st Q X=>wE e st (fun v st=>wEs es st (fun vs st=>Q (v::vs) st) X) X
noncomputable def wW:Es→St→(V→St→Prop)→(String→St→Prop)→Prop
 | .nil=>fun st Q _=>Q (.bool true) st
 | .cons e es=>fun st Q X=>wE e st (fun v st=>∃ b,v=.bool b∧((b=true∧wW es st Q X)∨(b=false∧Q (.bool false) st))) X
noncomputable def wOr:Es→St→(V→St→Prop)→(String→St→Prop)→Prop
 | .nil=>fun st Q _=>Q (.bool false) st
 | .cons e es=>fun st Q X=>wE e st (fun v st=>∃ b,v=.bool b∧((b=true∧Q (.bool true) st)∨(b=false∧wOr es st Q X))) X
end
noncomputable def Dk (vo vi v:V) (st:St) (Q:St→Prop):Prop:=
 (∃ (j:Nat) (k:Int) (xs:List V),(vo=.loc j∧vi=.int k)∧st.H[j]?= some (.list xs)∧0≤k∧k.toNat < xs.length∧Q ⟨st.s,st.H.set j (.list (xs.set k.toNat v))⟩)∨
 (∃ (j:Nat) (k:List Nat) (kvs:List (List Nat×V)),(vo=.loc j∧vi=.str k)∧st.H[j]?= some (.dictS kvs)∧kvs.length < 1000000∧Q ⟨st.s,st.H.set j (.dictS (nF k v kvs))⟩)∨
 False
noncomputable def wT (e:E) (st:St) (Q:Bool→St→Prop) (X:String→St→Prop):Prop:=wE Φ G e st (fun v st=>∃ b,v=.bool b∧Q b st) X
noncomputable def dl (K:St→Prop) (Q:Flow→St→Prop) (f:Flow) (st:St):Prop:=(f=.next∧K st)∨(f≠.next∧Q f st)
noncomputable def noX:String→St→Prop:=fun _ _=>False
mutual
noncomputable def wS:S→St→(Flow→St→Prop)→(String→St→Prop)→Prop
 | .stuck=>fun _ _ _=>False
 | .ex e=>fun st Q X=>wE Φ G e st (fun _ st=>Q .next st) X
 | .asg x e=>fun st Q X=>wE Φ G e st (fun v st=>Q .next (st.set x v)) X
 | .asgSub o i e=>fun st Q X=>wE Φ G e st (fun v st=>wE Φ G o st (fun vo st=>wE Φ G i st (fun vi st=>Dk vo vi v st (Q .next)) X) X) X
 | .asgAttr o x e=>fun st Q X=>wE Φ G e st (fun v st=>wE Φ G o st (fun vo st=>∃ j fs,fn st.H vo j fs∧fs.length < 900∧Q .next ⟨st.s,st.H.set j (.attrs (sA x v fs))⟩) X) X
 | .ite c t f=>fun st Q X=>wT Φ G c st (fun b st=>(b=true∧wSs t st Q X)∨(b=false∧wSs f st Q X)) X
 | .whl c b=>fun st Q _=>∃ n,nc (fun st Q=>wT Φ G c st Q noX) (fun st Q=>wSs b st Q noX) n st Q
 | .for_ x it b=>fun st Q X=>wE Φ G it st (fun vi st=>walkW vi st (fun items st Q=>tC (fun v st Q=>wSs b (st.set x v) Q noX) items st Q) Q) X
 | .ret e=>fun st Q X=>wE Φ G e st (fun v st=>Q (.ret v) st) X
 | .cont=>fun st Q _=>Q .cont st
 | .pass=>fun st Q _=>Q .next st
 | .raise c=>fun st _ X=>ak st.H∧X c st
 | .try_ b c x h=>fun st Q _=>ak st.H∧wSs b st Q fun c' st'=>(st'.H.length=st.H.length∧ak st'.H∧eM c c'=true)∧
   wSs h (st'.exc c' x) (fun f st₂=>AD st.H.length f∧st₂.H.take st.H.length=st.H∧Q f ((st₂.unx x).cut st.H.length)) noX
noncomputable def wSs:Ss→St→(Flow→St→Prop)→(String→St→Prop)→Prop
 | .nil=>fun st Q _=>Q .next st
 | .cons s ss=>fun st Q X=>wS s st (dl (fun st=>wSs ss st Q X) Q) X
end
end
end
noncomputable section
open PySem
noncomputable def bltNames:List String:=["len", "isinstance", "sorted", "max", "min", "str", "int", "range", "list", "bool", "tuple", "ValueError"]
noncomputable def fc (f:String):Value:=if ["len", "isinstance", "sorted", "max", "min"].contains f then .builtin f else .type f
noncomputable def xA:List Value:=[.type "ValueError",.type "Exception",.type "BaseException",.type "object"]
noncomputable def su (base:Heap) (mg:Str→Option Value) (exs:List String) (c:String) (cls:Addr):Prop:=
 PyProof.Rows.OwnCls (c:Str) cls xA "ValueError.__new__" mg base∧∃ K:PySem.W.Frag,K.In base∧rC K cls=true∧PySem.W.kitOne K (.ref cls) (.type "ValueError")=some true∧
  ∀ c'∈exs,∃ cls',mg (c':Str)=some (.ref cls')∧PySem.W.kitOne K (.ref cls) (.ref cls')=some (eM c' c)∧(eM c' c=true→eW K cls cls'=true)
noncomputable def mB (K:PySem.W.Frag) (D:Addr):Bool:=PySem.W.plainGet K D "__class__" && PySem.W.hasDictIn K D && PySem.W.findIn K (.ref D) "__class__" == some (some (.builtin "object.__class__")) && PySem.W.specialIn K (.builtin "object.__class__") "__get__" == some (some (.builtin "getset_descriptor.__get__")) && PySem.W.takesIn K (.builtin "object.__class__") == some true && PySem.W.mroIn K D (.type "object") == some true && PySem.W.kitOne K (.ref D) (.ref D) == some true
structure wV (base:Heap) (mg:Str→Option Value) (K:PySem.W.Frag) (cls:Addr) (meths:List (String×String)) (ats:List String) (fa:String→Option Addr):Prop where
 inn:K.In base
 glo:mg (("Store" :String):Str)=some (.ref cls)
 makes:PySem.W.makesIn K cls=true
 init: ∃ a,fa "Store.__init__" =some a∧PySem.W.findIn K (.ref cls) "__init__" =some (some (.ref a))∧PySem.W.typeIn K (.ref a)=some (.type "function")
 get:PySem.W.findIn K (.ref cls) "__getattribute__" =some (some (.builtin "object.__getattribute__"))∧PySem.W.findIn K (.ref cls) "__getattr__" =some none
 set:PySem.W.findIn K (.ref cls) "__setattr__" =some (some (.builtin "object.__setattr__"))
 over:PySem.W.plainOver K cls=true
 hasD:PySem.W.hasDictIn K cls=true
 meth: ∀ p∈meths,∃ a,fa p.2=some a∧PySem.W.findIn K (.ref cls) (p.1:Str)=some (some (.ref a))∧PySem.W.typeIn K (.ref a)=some (.type "function")∧PySem.W.keepIn K (.ref a)=true
 keep:PySem.W.keepIn K (.ref cls)=true
 attr: ∀ x∈ats,PySem.W.findIn K (.ref cls) (x:Str)=some none
 isi:mB K cls=true
structure Cx where
 prog:Program
 w:World
 base:Heap
 os:OsState
 mg:Str→Option Value
 mb:Str→Option Value
 g:base.Ns mainGlobals mg
 b:base.Ns builtinsNs mb
 nolimit:base.NoLimit
 glo:String→Option V
 hglo: ∀ (x:String) v,glo x=some v→∃ i t,v=.int i∧mg x=some (.int i t)
 fns:List String
 /-- where the defs stand -/
 fa:String→Option Addr
 hfns: ∀ f∈fns,∃ a o fd,fa f=some a∧mg (f:Str)=some (.ref a)∧base.get? a=some o∧o.data=.func fd
 K:PySem.W.Frag
 cls:Addr
 meths:List (String×String)
 ats:List String
 hcls:meths≠[]→wV base mg K cls meths ats fa
 exs:List String
 hexs: ∀ c∈exs,∃ cls,su base mg exs c cls
 blts: ∀ f∈bltNames,mg (f:Str)=none∧mb (f:Str)=some (fc f)
abbrev Cx.M (C:Cx):Model:=model C.prog C.w
noncomputable def HO.isLive:HO→Bool
 | .dead=>false
 | .inst _=>false
 | .obj _=>false
 | _=>true
noncomputable def Lv (ρ:List Addr) (H:List HO) (a:Addr):Prop:=∃ (i:Nat) (o:HO),ρ[i]?= some a∧H[i]?= some o∧o.isLive=true
structure Gh where
 h:Addr→Prop
 f:Addr→Prop
 fh: ∀ a,f a→h a
 e:Addr→Prop
 b:Addr→Prop
 bh: ∀ a,b a→h a
noncomputable def Nl (γ:Gh) (ρ:List Addr) (H:List HO) (a:Addr):Prop:=Lv ρ H a∨γ.h a
noncomputable def ay:Nat:=16777216
mutual
inductive Rel (h:Heap) (ρ:List Addr) (N:Addr→Prop):V→Value→Prop
 | none:Rel h ρ N .none .none
 | bool (b:Bool):Rel h ρ N (.bool b) (.bool b)
 | int (i:Int) (t:Tok):Rel h ρ N (.int i) (.int i t)
 | str {cs:List Nat} (t:Tok):cs.length≤ay→(∀ c∈cs,c < 128)→Rel h ρ N (.str cs) (.str ⟨cs.toArray⟩ t)
 | tup {a:Addr} {vs:List V} {ms:List Value}:h.IsTuple a ms.toArray→¬ N a→vs.length≤ay→aI h ρ N vs ms→Rel h ρ N (.tup vs) (.ref a)
 | lst {a:Addr} {vs:List V} {ms:List Value}:h.PlainList a ms.toArray→¬ N a→vs.length≤ay→aI h ρ N vs ms→Rel h ρ N (.lst vs) (.ref a)
 | rng {r:Addr} {a b c:Int} {t u v:Tok}:IsRange h r a b c t u v→¬ N r→Rel h ρ N (.rng a b c) (.ref r)
 | loc {i:Nat} {a:Addr}:ρ[i]?= some a→Rel h ρ N (.loc i) (.ref a)
inductive aI (h:Heap) (ρ:List Addr) (N:Addr→Prop):List V→List Value→Prop
 | nil:aI h ρ N [] []
 | cons {v:V} {m:Value} {vs:List V} {ms:List Value}:Rel h ρ N v m→aI h ρ N vs ms→aI h ρ N (v::vs) (m::ms)
end
noncomputable def dR (o o':Obj):Prop:=o'=o∨∃ es n sl,o.data=.dict es n∧o'={ o with slots:=sl }
theorem dR.refl (o:Obj):dR o o:=.inl rfl
theorem dR.trans {a b c:Obj} (x:dR a b) (y:dR b c):dR a c:=by
 rcases x with rfl | ⟨es,n,sl,hd,rfl⟩
 ·exact y
 ·rcases y with rfl | ⟨es',n',sl',hd',rfl⟩
  ·exact .inr ⟨es,n,sl,hd,rfl⟩
  ·exact .inr ⟨es,n,sl',hd,rfl⟩
theorem dR.same {o o':Obj} (x:dR o o') (h: ∀ es n,o.data≠.dict es n):o'=o:=by
 rcases x with e | ⟨es,n,sl,hd,_⟩
 ·exact e
 ·exact absurd hd (h es n)
structure cG (h:Heap) (ρ:List Addr) (N:Addr→Prop) (h':Heap) (ρ':List Addr) (N':Addr→Prop):Prop where
 keep: ∀ a o,h.get? a=some o→¬ N a→∃ o',h'.get? a=some o'∧dR o o'
 live: ∀ a,N' a→N a∨h.get? a=none
 pre: ∀ (i:Nat) a,ρ[i]?= some a→ρ'[i]?= some a
theorem cG.notLive {h h':Heap} {ρ ρ':List Addr} {N N':Addr→Prop} (k:cG h ρ N h' ρ' N') {a:Addr} {o:Obj} (ho:h.get? a=some o) (hn: ¬ N a): ¬ N' a:=fun q=>by
 rcases k.live a q with e | e
 ·exact hn e
 ·rw [ho] at e; cases e
theorem cG.same {h h':Heap} {ρ ρ':List Addr} {N N':Addr→Prop} (k:cG h ρ N h' ρ' N') {a:Addr} {o:Obj} (ho:h.get? a=some o) (hn: ¬ N a) (hd: ∀ es n,o.data≠.dict es n):h'.get? a=some o:=by
 obtain ⟨o',e,q⟩:=k.keep a o ho hn
 rw [e,q.same hd]
theorem cG.gh {γ:Gh} {h h':Heap} {ρ ρ':List Addr} {H H':List HO} (k:cG h ρ (Lv ρ H) h' ρ' (Lv ρ' H')):cG h ρ (Nl γ ρ H) h' ρ' (Nl γ ρ' H'):=
 ⟨fun a o e n=>k.keep a o e fun q=>n (.inl q),fun a q=>by
  rcases q with q | q
  ·exact (k.live a q).imp .inl id
  ·exact .inl (.inr q),k.pre⟩
theorem Rel.both {h:Heap} {ρ:List Addr} {N:Addr→Prop} {P:V→Value→Prop} {L:List V→List Value→Prop} (h1:P .none .none) (h2: ∀ b,P (.bool b) (.bool b)) (h3: ∀ i t,P (.int i) (.int i t))
  (h4: ∀ {cs:List Nat} (t:Tok),cs.length≤ay→(∀ c∈cs,c < 128)→P (.str cs) (.str ⟨cs.toArray⟩ t))
  (h5: ∀ {a:Addr} {vs:List V} {ms:List Value},h.IsTuple a ms.toArray→¬ N a→vs.length≤ay→L vs ms→P (.tup vs) (.ref a))
  (h6: ∀ {a:Addr} {vs:List V} {ms:List Value},h.PlainList a ms.toArray→¬ N a→vs.length≤ay→L vs ms→P (.lst vs) (.ref a))
  (h7: ∀ {r:Addr} {a b c:Int} {t u v:Tok},IsRange h r a b c t u v→¬ N r→P (.rng a b c) (.ref r)) (h8: ∀ {i:Nat} {a:Addr},ρ[i]?= some a→P (.loc i) (.ref a))
  (h9:L [] []) (h10: ∀ {v:V} {m:Value} {vs:List V} {ms:List Value},P v m→L vs ms→L (v::vs) (m::ms)):
  (∀ {v:V} {m:Value},Rel h ρ N v m→P v m)∧∀ {vs:List V} {ms:List Value},aI h ρ N vs ms→L vs ms:=
 ⟨fun r=>Rel.rec (motive_1:=fun v m _=>P v m) (motive_2:=fun vs ms _=>L vs ms) h1 h2 h3 (fun t a b=>h4 t a b) (fun a b c _ x=>h5 a b c x) (fun a b c _ x=>h6 a b c x) (fun a b=>h7 a b) (fun a=>h8 a) h9 (fun _ _ x y=>h10 x y) r,
  fun r=>aI.rec (motive_1:=fun v m _=>P v m) (motive_2:=fun vs ms _=>L vs ms) h1 h2 h3 (fun t a b=>h4 t a b) (fun a b c _ x=>h5 a b c x) (fun a b c _ x=>h6 a b c x) (fun a b=>h7 a b) (fun a=>h8 a) h9 (fun _ _ x y=>h10 x y) r⟩
theorem Rel.kept2 {h h':Heap} {ρ ρ':List Addr} {N N':Addr→Prop} (k:cG h ρ N h' ρ' N'):(∀ {v:V} {m:Value},Rel h ρ N v m→Rel h' ρ' N' v m)∧∀ {vs:List V} {ms:List Value},aI h ρ N vs ms→aI h' ρ' N' vs ms:=
 Rel.both .none .bool .int .str (fun ⟨o,ho,hc,n,hd⟩ hn hl r=>.tup ⟨o,k.same ho hn (fun es n' e=>by rw [hd] at e; cases e),hc,n,hd⟩ (k.notLive ho hn) hl r)
  (fun ⟨n,ho⟩ hn hl r=>.lst ⟨n,k.same ho hn (fun es n' e=>by cases e)⟩ (k.notLive ho hn) hl r) (fun hr hn=>.rng (k.same hr hn (fun es n' e=>by cases e)) (k.notLive hr hn)) (fun e=>.loc (k.pre _ _ e)) .nil .cons
theorem Rel.kept {h h':Heap} {ρ ρ':List Addr} {N N':Addr→Prop} (k:cG h ρ N h' ρ' N') {v:V} {m:Value} (r:Rel h ρ N v m):Rel h' ρ' N' v m:=(Rel.kept2 k).1 r
theorem aI.kept {h h':Heap} {ρ ρ':List Addr} {N N':Addr→Prop} (k:cG h ρ N h' ρ' N') {vs:List V} {ms:List Value} (r:aI h ρ N vs ms):aI h' ρ' N' vs ms:=(Rel.kept2 k).2 r
theorem aI.walk {h:Heap} {ρ:List Addr} {N:Addr→Prop} {L:List V→List Value→Prop} (h1:L [] []) (h2: ∀ {v:V} {m:Value} {vs:List V} {ms:List Value},Rel h ρ N v m→aI h ρ N vs ms→L vs ms→L (v::vs) (m::ms)) {vs:List V} {ms:List Value} (r:aI h ρ N vs ms):L vs ms:=by
 induction vs generalizing ms with
 | nil=>cases r; exact h1
 | cons v vs ih=>cases r with | cons a r=>exact h2 a r (ih r)
theorem aI.length {h:Heap} {ρ:List Addr} {N:Addr→Prop} {vs:List V} {ms:List Value} (r:aI h ρ N vs ms):vs.length=ms.length:=
 r.walk (L:=fun vs ms=>vs.length=ms.length) rfl fun _ _ ih=>congrArg Nat.succ ih
theorem aI.get {h:Heap} {ρ:List Addr} {N:Addr→Prop} {vs:List V} {ms:List Value} (r:aI h ρ N vs ms) {i:Nat} {v:V} (e:vs[i]?= some v): ∃ m,ms[i]?= some m∧Rel h ρ N v m:=
 r.walk (L:=fun vs ms=>∀ (i:Nat) (v:V),vs[i]?= some v→∃ m,ms[i]?= some m∧Rel h ρ N v m) (fun i v e=>by simp at e) (fun a _ ih i v e=>by
  cases i with
  | zero=>simp at e; subst e; exact ⟨_,rfl,a⟩
  | succ i=>exact ih i v e) i v e
theorem aI.get' {h:Heap} {ρ:List Addr} {N:Addr→Prop} {vs:List V} {ms:List Value} (r:aI h ρ N vs ms) {i:Nat} {m:Value} (e:ms[i]?= some m): ∃ v,vs[i]?= some v∧Rel h ρ N v m:=
 r.walk (L:=fun vs ms=>∀ (i:Nat) (m:Value),ms[i]?= some m→∃ v,vs[i]?= some v∧Rel h ρ N v m) (fun i v e=>by simp at e) (fun a _ ih i v e=>by
  cases i with
  | zero=>simp at e; subst e; exact ⟨_,rfl,a⟩
  | succ i=>exact ih i v e) i m e
theorem aI.append {h:Heap} {ρ:List Addr} {N:Addr→Prop} {vs ws:List V} {ms ns:List Value} (r:aI h ρ N vs ms) (q:aI h ρ N ws ns):aI h ρ N (vs++ws) (ms++ns):=
 r.walk (L:=fun vs ms=>aI h ρ N (vs++ws) (ms++ns)) q fun a _ ih=>.cons a ih
theorem aI.take {h:Heap} {ρ:List Addr} {N:Addr→Prop} {vs:List V} {ms:List Value} (r:aI h ρ N vs ms): ∀ n:Nat,aI h ρ N (vs.take n) (ms.take n):=
 r.walk (L:=fun vs ms=>∀ n:Nat,aI h ρ N (vs.take n) (ms.take n)) (fun n=>by rw [List.take_nil,List.take_nil]; exact .nil) fun a _ ih n=>by
  cases n with
  | zero=>exact .nil
  | succ n=>exact .cons a (ih n)
theorem aI.drop {h:Heap} {ρ:List Addr} {N:Addr→Prop} {vs:List V} {ms:List Value} (r:aI h ρ N vs ms): ∀ n:Nat,aI h ρ N (vs.drop n) (ms.drop n):=
 r.walk (L:=fun vs ms=>∀ n:Nat,aI h ρ N (vs.drop n) (ms.drop n)) (fun n=>by rw [List.drop_nil,List.drop_nil]; exact .nil) fun a r ih n=>by
  cases n with
  | zero=>exact .cons a r
  | succ n=>exact ih n
section
variable {h:Heap} {ρ:List Addr} {N:Addr→Prop} {m:Value}
theorem Rel.none_inv (r:Rel h ρ N .none m):m=.none:=by cases r; rfl
theorem Rel.bool_inv {b:Bool} (r:Rel h ρ N (.bool b) m):m=.bool b:=by cases r; rfl
theorem Rel.int_inv {i:Int} (r:Rel h ρ N (.int i) m): ∃ t,m=.int i t:=by cases r; exact ⟨_,rfl⟩
theorem Rel.str_inv {cs:List Nat} (r:Rel h ρ N (.str cs) m): ∃ t,m=.str ⟨cs.toArray⟩ t∧cs.length≤ay∧∀ c∈cs,c < 128:=by cases r with | str t a b=>exact ⟨t,rfl,a,b⟩
theorem Rel.tup_inv {vs:List V} (r:Rel h ρ N (.tup vs) m): ∃ a ms,m=.ref a∧h.IsTuple a ms.toArray∧¬ N a∧vs.length≤ay∧aI h ρ N vs ms:=by cases r with | tup a b c d=>exact ⟨_,_,rfl,a,b,c,d⟩
theorem Rel.lst_inv {vs:List V} (r:Rel h ρ N (.lst vs) m): ∃ a ms,m=.ref a∧h.PlainList a ms.toArray∧¬ N a∧vs.length≤ay∧aI h ρ N vs ms:=by cases r with | lst a b c d=>exact ⟨_,_,rfl,a,b,c,d⟩
theorem Rel.rng_inv {a b c:Int} (r:Rel h ρ N (.rng a b c) m): ∃ x t u v,m=.ref x∧IsRange h x a b c t u v∧¬ N x:=by cases r with | rng p q=>exact ⟨_,_,_,_,rfl,p,q⟩
theorem Rel.loc_inv {i:Nat} (r:Rel h ρ N (.loc i) m): ∃ a,m=.ref a∧ρ[i]?= some a:=by cases r with | loc a=>exact ⟨_,rfl,a⟩
theorem aI.nil_inv {ms:List Value} (r:aI h ρ N [] ms):ms=[]:=by cases r; rfl
theorem aI.cons_inv {v:V} {vs:List V} {ms:List Value} (r:aI h ρ N (v::vs) ms): ∃ m r',ms=m::r'∧Rel h ρ N v m∧aI h ρ N vs r':=by cases r with | cons a r=>exact ⟨_,_,rfl,a,r⟩
end
theorem Rel.low2 {h:Heap} {ρ:List Addr} {N:Addr→Prop}:(∀ {v:V} {m:Value},Rel h ρ N v m→Mine.low ρ.length v)∧∀ {vs:List V} {ms:List Value},aI h ρ N vs ms→Mine.lows ρ.length vs:=
 Rel.both trivial (fun _=>trivial) (fun _ _=>trivial) (fun _ _ _=>trivial) (fun _ _ _ r=>r) (fun _ _ _ r=>r) (fun _ _=>trivial) (fun e=>(List.getElem?_eq_some_iff.mp e).1) trivial fun a r=>⟨a,r⟩
theorem Rel.low {h:Heap} {ρ:List Addr} {N:Addr→Prop} {v:V} {m:Value} (r:Rel h ρ N v m):Mine.low ρ.length v:=Rel.low2.1 r
theorem aI.lows {h:Heap} {ρ:List Addr} {N:Addr→Prop} {vs:List V} {ms:List Value} (r:aI h ρ N vs ms):Mine.lows ρ.length vs:=Rel.low2.2 r
theorem Rel.cut2 {h:Heap} {ρ:List Addr} {N N':Addr→Prop} {n:Nat} (hN: ∀ a,N' a→N a):(∀ {v:V} {m:Value},Rel h ρ N v m→Mine.low n v→Rel h (ρ.take n) N' v m)∧∀ {vs:List V} {ms:List Value},aI h ρ N vs ms→Mine.lows n vs→aI h (ρ.take n) N' vs ms:=
 Rel.both (fun _=>.none) (fun b _=>.bool b) (fun i t _=>.int i t) (fun t a b _=>.str t a b) (fun a b c r l=>.tup a (fun q=>b (hN _ q)) c (r l)) (fun a b c r l=>.lst a (fun q=>b (hN _ q)) c (r l)) (fun a b _=>.rng a fun q=>b (hN _ q))
  (fun {i _} e l=>.loc (by rw [List.getElem?_take,if_pos (show i < n from l)]; exact e)) (fun _=>.nil) fun a r l=>.cons (a l.1) (r l.2)
theorem Rel.cut {h:Heap} {ρ:List Addr} {N N':Addr→Prop} {n:Nat} (hN: ∀ a,N' a→N a) {v:V} {m:Value} (r:Rel h ρ N v m) (l:Mine.low n v):Rel h (ρ.take n) N' v m:=(Rel.cut2 hN).1 r l
theorem aI.cut {h:Heap} {ρ:List Addr} {N N':Addr→Prop} {n:Nat} (hN: ∀ a,N' a→N a) {vs:List V} {ms:List Value} (r:aI h ρ N vs ms) (l:Mine.lows n vs):aI h (ρ.take n) N' vs ms:=(Rel.cut2 hN).2 r l
theorem aK {h h':Heap} {a:Addr} {m:Str→Option Value} (hn:h.Ns a m) (e: ∀ o,h.get? a=some o→∃ o',h'.get? a=some o'∧dR o o'):h'.Ns a m:=by
 obtain ⟨o,es,ep,ho,hd,hk,hf⟩:=hn
 obtain ⟨o',ho',q⟩:=e o ho
 rcases q with rfl | ⟨_,_,sl,_,rfl⟩
 ·exact ⟨_,es,ep,ho',hd,hk,hf⟩
 ·exact ⟨_,es,ep,ho',hd,hk,hf⟩
theorem cx {h:Heap} {a:Addr} {m:Str→Option Value} (hn:h.Ns a m): ∃ o,h.get? a=some o:=by obtain ⟨o,es,ep,ho,hd,hk,hf⟩:=hn; exact ⟨o,ho⟩
theorem fX {h:Heap} {a:Addr} {m:Str→Option Value} (hn:h.Ns a m): ∃ o es n,h.get? a=some o∧o.data=.dict es n:=by obtain ⟨o,es,ep,ho,hd,hk,hf⟩:=hn; exact ⟨o,_,_,ho,hd⟩
theorem ip {prog:Program} {w:World} {K:Type} [DecidableEq K] {knd:KeyKind prog w K} {kvs:List (K×Value)} {h h':Heap} {a:Addr} (x:h.DictOf knd a kvs) (e: ∀ o,h.get? a=some o→h'.get? a=some o):h'.DictOf knd a kvs:=by
 obtain ⟨o,ho,r⟩:=Heap.dictOf_iff.mp x
 exact Heap.dictOf_iff.mpr ⟨o,e o ho,r⟩
inductive iO (h:Heap) (ρ:List Addr) (N:Addr→Prop):List (String×V)→List DictEntry→Prop
 | nil:iO h ρ N [] []
 | cons {x:String} {v:V} {fs:List (String×V)} {hs:Int} {t:Tok} {mv:Value} {es:List DictEntry}:Rel h ρ N v mv→iO h ρ N fs es→iO h ρ N ((x,v)::fs) (⟨hs,.str (x:Str) t,mv⟩::es)
inductive fY (h:Heap) (ρ:List Addr) (N:Addr→Prop) {α K:Type} (f:α→K):List (α×V)→List (K×Value)→Prop
 | nil:fY h ρ N f [] []
 | cons {k:α} {v:V} {kvs:List (α×V)} {mv:Value} {ms:List (K×Value)}:Rel h ρ N v mv→fY h ρ N f kvs ms→fY h ρ N f ((k,v)::kvs) ((f k,mv)::ms)
abbrev sOf (s:List Nat):Str:=⟨s.toArray⟩
section
variable {h h':Heap} {ρ ρ':List Addr} {N N':Addr→Prop} {fs:List (String×V)} {es:List DictEntry} {α K:Type} {f:α→K} {kvs:List (α×V)} {ms:List (K×Value)} {n:Nat}
theorem iO.map (r:iO h ρ N fs es) (g: ∀ v m,Rel h ρ N v m→Rel h' ρ' N' v m):iO h' ρ' N' fs es:=by
 induction r with
 | nil=>exact .nil
 | cons a _ ih=>exact .cons (g _ _ a) ih
theorem iO.lows (r:iO h ρ N fs es):Mine.lows ρ.length (fs.map (·.2)):=by
 induction r with
 | nil=>trivial
 | cons a _ ih=>exact ⟨a.low,ih⟩
theorem iO.cut (hN: ∀ a,N' a→N a) (r:iO h ρ N fs es) (l:Mine.lows n (fs.map (·.2))):iO h (ρ.take n) N' fs es:=by
 induction r with
 | nil=>exact .nil
 | cons a _ ih=>exact .cons (a.cut hN l.1) (ih l.2)
theorem iO.length (r:iO h ρ N fs es):fs.length=es.length:=by
 induction r with
 | nil=>rfl
 | cons _ _ ih=>exact congrArg Nat.succ ih
theorem fY.map (r:fY h ρ N f kvs ms) (g: ∀ v m,Rel h ρ N v m→Rel h' ρ' N' v m):fY h' ρ' N' f kvs ms:=by
 induction r with
 | nil=>exact .nil
 | cons a _ ih=>exact .cons (g _ _ a) ih
theorem fY.lows (r:fY h ρ N f kvs ms):Mine.lows ρ.length (kvs.map (·.2)):=by
 induction r with
 | nil=>trivial
 | cons a _ ih=>exact ⟨a.low,ih⟩
theorem fY.cut (hN: ∀ a,N' a→N a) (r:fY h ρ N f kvs ms) (l:Mine.lows n (kvs.map (·.2))):fY h (ρ.take n) N' f kvs ms:=by
 induction r with
 | nil=>exact .nil
 | cons a _ ih=>exact .cons (a.cut hN l.1) (ih l.2)
theorem fY.length (r:fY h ρ N f kvs ms):kvs.length=ms.length:=by
 induction r with
 | nil=>rfl
 | cons _ _ ih=>exact congrArg Nat.succ ih
end
noncomputable def tO (C:Cx) (h:Heap) (ρ:List Addr) (N:Addr→Prop):HO→Addr→Prop
 | .list vs,a=>∃ ms:List Value,h.PlainList a ms.toArray∧aI h ρ N vs ms∧vs.length≤ay
 | .inst c,a=>c∈C.exs∧∃ o cls vs,h.get? a=some o∧C.mg c=some (.ref cls)∧o.cls=.ref cls∧o.dict=none∧o.data=.fields vs
 | .obj j,a=>C.meths≠[]∧∃ d,ρ[j]?= some d∧h.get? a=some (PySem.W.instObj C.cls d)
 | .attrs fs,a=>∃ es n,h.get? a=some (PySem.W.dictOf es n)∧iO h ρ N fs es
 | .dictS kvs,a=>∃ ms,h.DictOf (strKind C.prog C.w) a ms∧fY h ρ N sOf kvs ms∧(kvs.length≤ay∧a≠sysModules)∧∀ p∈kvs,p.1.length≤ay∧∀ c∈p.1,c < 128
 | .dead,_=>True
section
variable {γ:Gh}
structure Inv (C:Cx) (γ:Gh) (ρ:List Addr) (H:List HO) (s:Shared):Prop where
 base: ∀ b o,C.base.get? b=some o→s.heap.get? b=some o
 len:ρ.length=H.length
 nodup:ρ.Nodup
 fresh: ∀ a∈ρ,C.base.get? a=none
 there: ∀ a∈ρ,∃ o,s.heap.get? a=some o
 obj: ∀ (i:Nat) a o,ρ[i]?= some a→H[i]?= some o→tO C s.heap ρ (Nl γ ρ H) o a
 apart: ∀ a∈ρ,γ.h a→γ.b a
 bor: ∀ (i:Nat) a o,ρ[i]?= some a→γ.b a→H[i]?= some o→o=.dead
 held: ∀ a,γ.h a→∃ o,s.heap.get? a=some o
 off: ∀ a,γ.h a→C.base.get? a=none
 frm: ∀ a,γ.f a→∃ o es n,s.heap.get? a=some o∧o.data=.dict es n
 hdl: ∀ a,γ.e a→(∃ o vs,s.heap.get? a=some o∧o.data=.fields vs∧vs[2]?= some .none)∧¬ Lv ρ H a∧¬ γ.h a
 hq:ak H→∀ a,¬ γ.e a
 gens:s.gens= #[]
 os:s.os=C.os
theorem dZ {H:List HO} {i:Nat} {o o':HO} (hH:H[i]?= some o) (ho: ∀ c,o≠.inst c) (z:ak (H.set i o')):ak H:=fun c h=>by
 obtain ⟨j,hj⟩:=List.mem_iff_getElem?.mp h
 by_cases e:i=j
 ·subst e; rw [hH] at hj; exact ho c (Option.some.inj hj)
 ·exact z c (List.mem_iff_getElem?.mpr ⟨j,by rw [List.getElem?_set_ne e]; exact hj⟩)
theorem hU {H:List HO} {o:HO} (z:ak (H++[o])):ak H:=fun c h=>z c (List.mem_append.mpr (.inl h))
theorem wi {o:HO} (h:o.isLive=true) (c:String):o≠.inst c:=fun e=>by rw [e] at h; cases h
structure Stp (ρ:List Addr) (H:List HO) (s:Shared) (ρ':List Addr) (H':List HO) (s':Shared):Prop where
 kep:cG s.heap ρ (Lv ρ H) s'.heap ρ' (Lv ρ' H')
theorem Stp.kept {ρ ρ':List Addr} {H H':List HO} {s s':Shared} (S:Stp ρ H s ρ' H' s'):cG s.heap ρ (Nl γ ρ H) s'.heap ρ' (Nl γ ρ' H'):=S.kep.gh
theorem Stp.refl (ρ:List Addr) (H:List HO) (s:Shared):Stp ρ H s ρ H s:=⟨⟨fun _ o e _=>⟨o,e,.refl o⟩,fun _ e=>.inl e,fun _ _ e=>e⟩⟩
theorem Stp.trans {ρ ρ' ρ'':List Addr} {H H' H'':List HO} {s s' s'':Shared} (x:Stp ρ H s ρ' H' s') (y:Stp ρ' H' s' ρ'' H'' s''):Stp ρ H s ρ'' H'' s'':=by
 refine ⟨⟨fun a o e n=>?_,fun a e=>?_,fun i a e=>y.kep.pre _ _ (x.kep.pre _ _ e)⟩⟩
 ·obtain ⟨o',e',q⟩:=x.kep.keep a o e n
  obtain ⟨o'',e'',q'⟩:=y.kep.keep a o' e' (x.kep.notLive e n)
  exact ⟨o'',e'',q.trans q'⟩
 ·rcases y.kep.live a e with q | q
  ·exact x.kep.live a q
  ·by_cases hL:Lv ρ H a
   ·exact .inl hL
   ·right
    cases hg:s.heap.get? a with
    | none=>rfl
    | some o=>
     obtain ⟨o',e',_⟩:=x.kep.keep a o hg hL
     rw [q] at e'; cases e'
theorem Inv.hdl' {C:Cx} {ρ ρ':List Addr} {H H':List HO} {s s':Shared} (I:Inv C γ ρ H s) (K:cG s.heap ρ (Lv ρ H) s'.heap ρ' (Lv ρ' H')) (a:Addr) (q:γ.e a):(∃ o vs,s'.heap.get? a=some o∧o.data=.fields vs∧vs[2]?= some .none)∧¬ Lv ρ' H' a∧¬ γ.h a:=
 let ⟨⟨o,vs,e,d,v⟩,l,nh⟩:=I.hdl a q
 ⟨⟨o,vs,K.same e l (fun es n z=>by rw [d] at z; cases z),d,v⟩,K.notLive e l,nh⟩
theorem Stp.of_keep {ρ:List Addr} {H:List HO} {s s':Shared} (k: ∀ a o,s.heap.get? a=some o→s'.heap.get? a=some o):Stp ρ H s ρ H s':=
 ⟨⟨fun _ o e _=>⟨o,k _ _ e,.refl o⟩,fun _ e=>.inl e,fun _ _ e=>e⟩⟩
theorem tO.kept {C:Cx} {h h':Heap} {ρ ρ':List Addr} {N N':Addr→Prop} (k:cG h ρ N h' ρ' N') {o:HO} {a:Addr} (r:tO C h ρ N o a) (e: ∀ x,h.get? a=some x→h'.get? a=some x):tO C h' ρ' N' o a:=by
 cases o with
 | list vs=>
  obtain ⟨ms,⟨n,hx⟩,r2,r3⟩:=r
  exact ⟨ms,⟨n,e _ hx⟩,r2.kept k,r3⟩
 | inst _=>exact ⟨r.1,let ⟨o,cls,vs,h1,h2⟩:=r.2; ⟨o,cls,vs,e _ h1,h2⟩⟩
 | obj j=>exact ⟨r.1,let ⟨d,h1,h2⟩:=r.2; ⟨d,k.pre _ _ h1,e _ h2⟩⟩
 | attrs fs=>
  obtain ⟨es,n,h1,h2⟩:=r
  exact ⟨es,n,e _ h1,h2.map fun _ _ q=>q.kept k⟩
 | dictS kvs=>
  obtain ⟨ms,hd,r2,r3⟩:=r
  exact ⟨ms,ip hd e,r2.map fun _ _ q=>q.kept k,r3⟩
 | dead=>trivial
theorem Inv.of_keep {C:Cx} {ρ:List Addr} {H:List HO} {s s':Shared} (I:Inv C γ ρ H s) (k: ∀ a o,s.heap.get? a=some o→s'.heap.get? a=some o)
  (hg:s'.gens=s.gens) (ho:s'.os=s.os):Inv C γ ρ H s':=
 ⟨fun b o e=>k _ _ (I.base b o e),I.len,I.nodup,I.fresh,fun a e=>let ⟨o,q⟩:=I.there a e; ⟨o,k _ _ q⟩,fun i a o e1 e2=>(I.obj i a o e1 e2).kept (Stp.of_keep k).kept fun x hx=>k _ _ hx,I.apart,I.bor,fun a q=>let ⟨o,e⟩:=I.held a q; ⟨o,k _ _ e⟩,I.off,(fun a q=>let ⟨o,es,n,e,d⟩:=I.frm a q; ⟨o,es,n,k _ _ e,d⟩),(fun a q=>let ⟨⟨o,vs,e,d⟩,q2⟩:=I.hdl a q; ⟨⟨o,vs,k _ _ e,d⟩,q2⟩),I.hq,hg.trans I.gens,ho.trans I.os⟩
structure Fra (γ:Gh) (env:Env) (st:St) (ρ:List Addr) (s:Shared):Prop where
 kind:env.scope.kind=.function
 glob:env.globals=mainGlobals
 blt:env.builtins=builtinsNs
 nl: ¬ Lv ρ st.H env.locals
 own:γ.h env.locals
 ns: ∃ m,s.heap.Ns env.locals m∧∀ (x:String) v,env.kindOf x=some .local→(x:Str)≠(".0" :Str)→st.s x=some v→∃ mv,m x=some mv∧Rel s.heap ρ (Nl γ ρ st.H) v mv
 cell: ∀ n:Str,(env.kindOf n=some .cell∨env.kindOf n=some .free)→∃ c ov,env.cells.lookup n=some c∧(¬ Lv ρ st.H c∧γ.h c)∧s.heap.IsCell c ov∧
  ∀ (x:String),(x:Str)=n→∀ v,st.s x=some v→∃ mv,ov=some mv∧Rel s.heap ρ (Nl γ ρ st.H) v mv
 apart: ∀ (n n':Str) c,env.cells.lookup n=some c→env.cells.lookup n'=some c→n=n'
 nb: ¬ γ.b env.locals
 nbc: ∀ (n:Str) c,env.cells.lookup n=some c→γ.h c∧¬ γ.b c
theorem Fra.step {env:Env} {st st':St} {ρ ρ':List Addr} {s s':Shared} (F:Fra γ env st ρ s) (S:Stp ρ st.H s ρ' st'.H s') (e:st'.s=st.s):Fra γ env st' ρ' s':=by
 obtain ⟨m,hm,hv⟩:=F.ns
 obtain ⟨oL,hoL⟩:=cx hm
 refine ⟨F.kind,F.glob,F.blt,S.kep.notLive hoL F.nl,F.own,⟨m,aK hm fun o ho=>S.kep.keep _ o ho F.nl,fun x v k kz q=>?_⟩,fun x k=>?_,F.apart,F.nb,F.nbc⟩
 ·obtain ⟨mv,e1,e2⟩:=hv x v k kz (e▸q)
  exact ⟨mv,e1,e2.kept S.kept⟩
 ·obtain ⟨c,ov,h1,h2,⟨oc,hoc,hdc⟩,h4⟩:=F.cell x k
  refine ⟨c,ov,h1,⟨S.kep.notLive hoc h2.1,h2.2⟩,⟨oc,S.kep.same hoc h2.1 (fun es n q=>by rw [hdc] at q; cases q),hdc⟩,fun y hy v q=>?_⟩
  obtain ⟨mv,e1,e2⟩:=h4 y hy v (e▸q)
  exact ⟨mv,e1,e2.kept S.kept⟩
structure bO (k:Nat) (A:Around) (γ:Gh):Prop where
 depth:A.depth+k < 900
 units:A.units+4*k < 9000
 hdl: ∀ v,A.handled=some v→∃ e,v=.ref e∧γ.e e
 frs: ∃ l,A.frames=some l∧∀ env∈l,env.scope.kind≠.module∧∃ L,env.frame=some L∧γ.f L
theorem bO.mono {k j:Nat} {A:Around} (r:bO k A γ) (h:j≤k):bO j A γ:=⟨by have:=r.depth; exact lin [_,j,k] [(1,.v 1,.v 2),(1,.a (.a (.v 0) (.v 2)) (.n 1),.n 900)] 1 (.a (.a (.v 0) (.v 1)) (.n 1)) (.n 900) rfl h this,by have:=r.units; exact lin [_,j,k] [(4,.v 1,.v 2),(1,.a (.a (.v 0) (.m 4 (.v 2))) (.n 1),.n 9000)] 1 (.a (.a (.v 0) (.m 4 (.v 1))) (.n 1)) (.n 9000) rfl h this,r.hdl,r.frs⟩
theorem bO.handled {k:Nat} {A:Around} {C:Cx} {ρ:List Addr} {H:List HO} {s:Shared} (r:bO k A γ) (I:Inv C γ ρ H s) (h:ak H):A.handled=none:=by
 cases e:A.handled with
 | none=>rfl
 | some v=>obtain ⟨a,_,q⟩:=r.hdl v e; exact absurd q (I.hq h a)
theorem bO.more {k:Nat} {A:Around} {γ':Gh} (r:bO k A γ) (h: ∀ a,γ.f a→γ'.f a) (he: ∀ a,γ.e a→γ'.e a):bO k A γ':=
 ⟨r.depth,r.units,(fun v q=>let ⟨e,h1,h2⟩:=r.hdl v q; ⟨e,h1,he e h2⟩),let ⟨l,h1,h2⟩:=r.frs; ⟨l,h1,fun env he=>let ⟨a,L,b,c⟩:=h2 env he; ⟨a,L,b,h L c⟩⟩⟩
theorem bO.deeper {k:Nat} {A:Around} {γ':Gh} (r:bO (k+1) A γ) (env:Env) (hf: ∀ a,γ.f a→γ'.f a) (he: ∀ a,γ.e a→γ'.e a) (hk:env.scope.kind≠.module) {L:Addr} (hL:env.frame=some L) (hfL:γ'.f L):bO k (A.deeper env) γ':=
 ⟨by have:=r.depth; show A.depth+1+k < 900; exact lin [_,k] [(1,.a (.a (.v 0) (.a (.v 1) (.n 1))) (.n 1),.n 900)] 1 (.a (.a (.a (.v 0) (.n 1)) (.v 1)) (.n 1)) (.n 900) rfl this,by have:=r.units; show A.units+3+4*k < 9000; exact lin [_,k] [(1,.a (.a (.v 0) (.m 4 (.a (.v 1) (.n 1)))) (.n 1),.n 9000)] 1 (.a (.a (.a (.v 0) (.n 3)) (.m 4 (.v 1))) (.n 1)) (.n 9000) rfl this,(fun v q=>let ⟨e,h1,h2⟩:=r.hdl v q; ⟨e,h1,he e h2⟩),by
  obtain ⟨l,h1,h2⟩:=r.frs
  refine ⟨env::l,Around.frames_deeper h1,fun e he=>?_⟩
  rcases List.mem_cons.mp he with rfl | he
  ·exact ⟨hk,L,hL,hfL⟩
  ·obtain ⟨a,L,b,c⟩:=h2 e he
   exact ⟨a,L,b,hf L c⟩⟩
noncomputable def iK (h:Heap) (e T cls:Addr) (fl:Value):Prop:=∃ oe vs oT ts,h.get? e=some oe∧(oe.cls=.ref cls∧oe.dict=none∧oe.data=.fields vs)∧(vs[1]?= some (.ref T)∧vs[2]?= some .none)∧T≠e∧h.get? T=some oT∧oT.cls=.type "traceback" ∧oT.data=.fields ts∧ts[3]?= some fl
noncomputable def iY (C:Cx) (b:Heap) (s':Shared) (ev:Value) (c:String):Prop:=∃ e cls T,ev=.ref e∧(c∈C.exs∧C.mg c=some (.ref cls))∧b.get? e=none∧b.get? T=none∧iK s'.heap e T cls .none
noncomputable def pP (C:Cx) (b:Heap) (s':Shared) (ev:Value) (c:String):Prop:=∃ e cls t,ev=.ref e∧(c∈C.exs∧C.mg c=some (.ref cls))∧b.get? e=none∧s'.heap.get? e=some { cls:=.ref cls,data:=.fields #[.ref t,.none,.none,.none,.bool false,.none]}
theorem iY.back {C:Cx} {b b':Heap} {s':Shared} {ev:Value} {c:String} (h: ∀ a,b'.get? a=none→b.get? a=none) (x:iY C b' s' ev c):iY C b s' ev c:=by
 obtain ⟨e,cls,T,h1,h2,h3,h4,h5⟩:=x
 exact ⟨e,cls,T,h1,h2,h e h3,h T h4,h5⟩
theorem pP.back {C:Cx} {b b':Heap} {s':Shared} {ev:Value} {c:String} (h: ∀ a,b'.get? a=none→b.get? a=none) (x:pP C b' s' ev c):pP C b s' ev c:=by
 obtain ⟨e,cls,t,h1,h2,h3,h4⟩:=x
 exact ⟨e,cls,t,h1,h2,h e h3,h4⟩
theorem Stp.back {C:Cx} {ρ ρ₁:List Addr} {H H₁:List HO} {s s₁:Shared} (S:Stp ρ H s ρ₁ H₁ s₁) (I:Inv C γ ρ₁ H₁ s₁) (a:Addr) (h:s₁.heap.get? a=none):s.heap.get? a=none:=by
 cases e:s.heap.get? a with
 | none=>rfl
 | some o=>
  exfalso
  by_cases q:Lv ρ H a
  ·obtain ⟨i,_,q1,_⟩:=q
   obtain ⟨o',e'⟩:=I.there a (List.mem_of_getElem? (S.kep.pre i a q1))
   rw [h] at e'; cases e'
  ·obtain ⟨o',e',_⟩:=S.kep.keep a o e q
   rw [h] at e'; cases e'
noncomputable def ek (C:Cx) (γ:Gh) (ρ:List Addr) (st:St) (s:Shared) (Q:V→St→Prop) (mv:Value) (s':Shared):Prop:=
 ∃ v st' ρ',Q v st'∧st'.s=st.s∧Rel s'.heap ρ' (Nl γ ρ' st'.H) v mv∧Inv C γ ρ' st'.H s'∧Stp ρ st.H s ρ' st'.H s'
noncomputable def bA (C:Cx) (γ:Gh) (ρ:List Addr) (st:St) (s:Shared) (X:String→St→Prop) (ev:Value) (s':Shared):Prop:=
 ∃ c st' ρ',X c st'∧st'.s=st.s∧iY C s.heap s' ev c∧Inv C γ ρ' st'.H s'∧Stp ρ st.H s ρ' st'.H s'
theorem bA.step {C:Cx} {ρ ρ₁:List Addr} {st st₁:St} {s s₁:Shared} {X:String→St→Prop} {ev:Value} {s':Shared} (I:Inv C γ ρ₁ st₁.H s₁) (S:Stp ρ st.H s ρ₁ st₁.H s₁) (e:st₁.s=st.s) (p:bA C γ ρ₁ st₁ s₁ X ev s'):bA C γ ρ st s X ev s':=by
 obtain ⟨c,st',ρ',h1,h2,h3,h4,h5⟩:=p
 exact ⟨c,st',ρ',h1,h2.trans e,h3.back (S.back I),h4,S.trans h5⟩
theorem ek.step {C:Cx} {ρ ρ₁:List Addr} {st st₁:St} {s s₁:Shared} {Q:V→St→Prop} {mv:Value} {s':Shared} (S:Stp ρ st.H s ρ₁ st₁.H s₁) (e:st₁.s=st.s) (p:ek C γ ρ₁ st₁ s₁ Q mv s'):ek C γ ρ st s Q mv s':=by
 obtain ⟨v,st',ρ',h1,h2,h3,h4,h5⟩:=p
 exact ⟨v,st',ρ',h1,h2.trans e,h3,h4,S.trans h5⟩
noncomputable def Calls (C:Cx) (k:Nat):Orc:=fun f args H r H'=>∀ (A:Around) (s:Shared) (γ:Gh) (ρ:List Addr) (ms:List Value) (fa:Addr),bO (2*k) A γ→Inv C γ ρ H s→aI s.heap ρ (Nl γ ρ H) args ms→C.fa f=some fa→
 codeAny C.M A (.call (.ref fa) ⟨ms,[]⟩) (fun res s'=>match r,res with
  | .ok v,.ok (.ret mv)=>∃ ρ',Rel s'.heap ρ' (Nl γ ρ' H') v mv∧Inv C γ ρ' H' s'∧Stp ρ H s ρ' H' s'
  | .err c,.error ev=>∃ ρ',iY C s.heap s' ev c∧Inv C γ ρ' H' s'∧Stp ρ H s ρ' H' s'
  | _,_=>False) s
theorem Calls.mono {C:Cx} {k j:Nat} {f:String} {args:List V} {H H':List HO} {r:R} (x:Calls C k f args H r H') (h:k≤j):Calls C j f args H r H':=
 fun A s γ ρ ms fa hr=>x A s γ ρ ms fa (hr.mono (Nat.mul_le_mul_left 2 h))
end
end
noncomputable section
open PySem
theorem cB {α β:Type} [BEq α] {p:α×β} {r:List (α×β)} {k:α}:(p::r).lookup k=if (k == p.1)=true then some p.2 else r.lookup k:=by
 rw [List.lookup]; cases k == p.1<;>rfl
section
variable {h:Heap} {ρ:List Addr} {N:Addr→Prop} {α K:Type} [BEq α] [LawfulBEq α] [DecidableEq α] [DecidableEq K] {f:α→K} {kvs:List (α×V)} {ms:List (K×Value)}
theorem fO {K:Type} [DecidableEq K] {p:K×Value} {r:List (K×Value)} {k:K}:valueAt (p::r) k=if p.1=k then some p.2 else valueAt r k:=by
 rw [valueAt,List.find?_cons]
 by_cases q:p.1=k
 ·rw [if_pos q,decide_eq_true q]; rfl
 ·rw [if_neg q,decide_eq_false q]; rfl
theorem fY.get (hf: ∀ a b,f a=f b→a=b) (r:fY h ρ N f kvs ms) (k:α):match kvs.lookup k with
  | some v=>∃ mv,valueAt ms (f k)=some mv∧Rel h ρ N v mv
  | none=>valueAt ms (f k)=none:=by
 induction r with
 | nil=>rfl
 | @cons k' v kvs mv ms a _ ih=>
  rw [cB,fO]
  by_cases q:k=k'
  ·subst q
   rw [if_pos (beq_self_eq_true k),if_pos rfl]
   exact ⟨mv,rfl,a⟩
  ·rw [if_neg (fun z=>q (eq_of_beq z)),if_neg (fun z=>q (hf _ _ z.symm))]
   exact ih
theorem fY.has (hf: ∀ a b,f a=f b→a=b) (r:fY h ρ N f kvs ms) (k:α):(valueAt ms (f k)).isSome=decide (k∈kvs.map (·.1)):=by
 induction r with
 | nil=>rfl
 | @cons k' v kvs mv ms a _ ih=>
  rw [fO,Bool.eq_iff_iff,decide_eq_true_eq,List.map_cons,List.mem_cons]
  by_cases q:k=k'
  ·subst q; rw [if_pos rfl]; exact ⟨fun _=>.inl rfl,fun _=>rfl⟩
  ·rw [if_neg (fun z=>q (hf _ _ z.symm)),ih,decide_eq_true_eq]
   exact ⟨.inr,fun z=>z.resolve_left q⟩
theorem fY.store (hf: ∀ a b,f a=f b→a=b) (r:fY h ρ N f kvs ms) (k:α) {v:V} {mv:Value} (rv:Rel h ρ N v mv):fY h ρ N f (nF k v kvs) (stored ms (f k) mv):=by
 have key: ∀ {kvs:List (α×V)} {ms:List (K×Value)},fY h ρ N f kvs ms→fY h ρ N f (kvs.map fun p=>if p.1=k then (p.1,v) else p) (ms.map fun p=>if p.1=f k then (p.1,mv) else p):=fun r=>by
  induction r with
  | nil=>exact .nil
  | @cons k' u kvs mu ms a _ ih=>
   rw [List.map_cons,List.map_cons]
   by_cases q:k'=k
   ·rw [if_pos q,if_pos (congrArg f q)]; exact .cons rv ih
   ·rw [if_neg q,if_neg (fun z=>q (hf _ _ z))]; exact .cons a ih
 have app: ∀ {kvs:List (α×V)} {ms:List (K×Value)},fY h ρ N f kvs ms→fY h ρ N f (kvs++[(k,v)]) (ms++[(f k,mv)]):=fun r=>by
  induction r with
  | nil=>exact .cons rv .nil
  | cons a _ ih=>exact .cons a ih
 have any:(ms.any fun p=>decide (p.1=f k))=decide (k∈kvs.map (·.1)):=by
  rw [← r.has hf k,valueAt,Option.isSome_map,Bool.eq_iff_iff,List.find?_isSome,List.any_eq_true]
 unfold nF stored
 rw [any]
 by_cases q:k∈kvs.map (·.1)
 ·rw [if_pos q,if_pos (decide_eq_true q)]; exact key r
 ·rw [if_neg q,if_neg (by rw [decide_eq_false q]; exact Bool.false_ne_true)]; exact app r
theorem lX (k:α) (v:V) (kvs:List (α×V)):(nF k v kvs).length≤kvs.length+1:=by
 unfold nF
 split
 ·rw [List.length_map]; exact Nat.le_succ _
 ·rw [List.length_append]; exact Nat.le_refl _
theorem qF {k:α} {v:V} {kvs:List (α×V)} {p:α×V} (h:p∈nF k v kvs):p.1=k∨∃ q∈kvs,q.1=p.1:=by
 unfold nF at h
 split at h
 ·obtain ⟨q,h1,h2⟩:=List.mem_map.mp h
  refine .inr ⟨q,h1,?_⟩
  rw [← h2]; split<;>rfl
 ·rcases List.mem_append.mp h with h | h
  ·exact .inr ⟨p,h,rfl⟩
  ·rw [List.mem_singleton.mp h]; exact .inl rfl
end
theorem jK (a b:List Nat) (h:sOf a=sOf b):a=b:=by
 have:a.toArray=b.toArray:=congrArg Str.cps h
 simpa using this
section
variable {h:Heap} {ρ:List Addr} {N:Addr→Prop} {fs:List (String×V)} {es:List DictEntry}
theorem fv {x y:String} (h:(x:Str)=(y:Str)):x=y:=by
 have h':Str.ofString x=Str.ofString y:=h
 rw [Str.ofString_eq_toList,Str.ofString_eq_toList] at h'
 have h2:x.toList.map Char.toNat=y.toList.map Char.toNat:=by simpa using h'
 have inj: ∀ {a b:List Char},a.map Char.toNat=b.map Char.toNat→a=b:=by
  intro a
  induction a with
  | nil=>intro b e; cases b with
   | nil=>rfl
   | cons _ _=>simp at e
  | cons c a ih=>intro b e; cases b with
   | nil=>simp at e
   | cons d b=>
    simp only [List.map_cons,List.cons.injEq] at e
    have:c=d:=Char.ext (UInt32.toNat_inj.mp e.1)
    rw [this,ih e.2]
 exact String.toList_inj.mp (inj h2)
theorem nV {x y:String} {t:Tok}:(Value.str (x:Str) t).isStr (y:Str)=decide (x=y):=by
 show ((x:Str) == (y:Str))=_
 rw [Bool.eq_iff_iff,beq_iff_eq,decide_eq_true_eq]
 exact ⟨fv,fun e=>e▸rfl⟩
theorem iO.noRef (r:iO h ρ N fs es):(es.any (·.refKey))=false:=by
 induction r with
 | nil=>rfl
 | cons _ _ ih=>rw [List.any_cons,ih]; rfl
theorem iO.get (r:iO h ρ N fs es) (x:String):match fs.lookup x with
  | some v=>∃ mv,PySem.W.getL (x:Str) es=some (some mv)∧Rel h ρ N v mv
  | none=>PySem.W.getL (x:Str) es=some none:=by
 have key:match fs.lookup x with
  | some v=>∃ e,es.find? (·.key.isStr (x:Str))=some e∧Rel h ρ N v e.val
  | none=>es.find? (·.key.isStr (x:Str))=none:=by
  induction r with
  | nil=>rfl
  | @cons y v fs hs t mv es a _ ih=>
   rw [cB,List.find?_cons]
   have e:(Value.str (y:Str) t).isStr (x:Str)=decide (y=x):=nV
   by_cases q:x=y
   ·subst q
    rw [if_pos (beq_self_eq_true x),e,decide_eq_true rfl]
    exact ⟨_,rfl,a⟩
   ·rw [if_neg (fun z=>q (eq_of_beq z)),e,decide_eq_false (fun z=>q z.symm)]
    exact ih
 have nr:=r.noRef
 unfold PySem.W.getL
 cases e:fs.lookup x with
 | none=>rw [e] at key; rw [key,nr]; rfl
 | some v=>rw [e] at key; obtain ⟨en,h1,h2⟩:=key; rw [h1]; exact ⟨_,rfl,h2⟩
theorem iO.put (r:iO h ρ N fs es) (x:String) {v:V} {mv:Value} (rv:Rel h ρ N v mv) (hs:Int) (t:Tok):iO h ρ N (sA x v fs) (PySem.W.putL (x:Str) hs (.str (x:Str) t) mv es):=by
 induction r with
 | nil=>exact .cons rv .nil
 | @cons y u fs hs' t' mu es a ra ih=>
  have e:(Value.str (y:Str) t').isStr (x:Str)=decide (y=x):=nV
  rw [sA,PySem.W.putL,e]
  by_cases q:y=x
  ·rw [if_pos q,decide_eq_true q,if_pos rfl]; exact .cons rv ra
  ·rw [if_neg q,decide_eq_false q,if_neg Bool.false_ne_true]; exact .cons a ih
end
theorem lY (x:String) (v:V) (fs:List (String×V)):(sA x v fs).length≤fs.length+1:=by
 induction fs with
 | nil=>exact Nat.le_refl _
 | cons p r ih=>
  rw [sA]
  split
  ·exact Nat.le_succ _
  ·exact Nat.succ_le_succ ih
theorem cM {sep p q:List Nat} {ps:List (List Nat)}:bf sep (p::q::ps)=p++(sep++bf sep (q::ps)):=by
 rw [bf,bf,List.flatMap_cons,List.append_assoc]
theorem qm {c:Nat} {p q r r':List Nat} (hp:c ∉ p) (hq:c ∉ q) (e:p++c::r=q++c::r'):p=q∧r=r':=by
 induction p generalizing q with
 | nil=>
  cases q with
  | nil=>exact ⟨rfl,(List.cons.inj e).2⟩
  | cons d q=>exact absurd (by rw [(List.cons.inj e).1]; exact List.mem_cons_self) hq
 | cons d p ih=>
  cases q with
  | nil=>exact absurd (by rw [← (List.cons.inj e).1]; exact List.mem_cons_self) hp
  | cons d' q=>
   obtain ⟨rfl,e'⟩:=List.cons.inj e
   obtain ⟨rfl,h⟩:=ih (fun z=>hp (List.mem_cons_of_mem _ z)) (fun z=>hq (List.mem_cons_of_mem _ z)) e'
   exact ⟨rfl,h⟩
theorem rg {c:Nat} (ps:List (List Nat)): ∀ qs:List (List Nat),ps≠[]→qs≠[]→(∀ p∈ps,c ∉ p)→(∀ q∈qs,c ∉ q)→bf [c] ps=bf [c] qs→ps=qs:=by
 induction ps with
 | nil=>exact fun _ h=>absurd rfl h
 | cons p ps ih=>
  intro qs _ hq f g e
  have hp:=f p List.mem_cons_self
  have f': ∀ p∈ps,c ∉ p:=fun x hx=>f x (List.mem_cons_of_mem _ hx)
  match qs,hq,g with
  | q::qs,_,g=>
   have hq:=g q List.mem_cons_self
   have g': ∀ p∈qs,c ∉ p:=fun x hx=>g x (List.mem_cons_of_mem _ hx)
   match ps,qs with
   | [],[]=>rw [show p=q by simpa [bf] using e]
   | [],q'::qs=>exact absurd (show c∈p by rw [show p=q++([c]++bf [c] (q'::qs)) by rw [← cM,← e]; simp [bf]]; simp) hp
   | p'::ps,[]=>exact absurd (show c∈q by rw [show q=p++([c]++bf [c] (p'::ps)) by rw [← cM,e]; simp [bf]]; simp) hq
   | p'::ps,q'::qs=>
    rw [cM,cM] at e
    obtain ⟨rfl,e'⟩:=qm hp hq e
    rw [ih (q'::qs) (fun h=>nomatch h) (fun h=>nomatch h) f' g' e']
end
noncomputable section
open PySem PyProof.Rows
variable {γ:Gh}
theorem bi:sizeLine=ay:=rfl
noncomputable def mV (s:Shared) (P:Value→Prop) (mv:Value) (s':Shared):Prop:=P mv∧∃ tk,s'={ s with toks:=tk }
theorem mV.now {s:Shared} {P:Value→Prop} {mv:Value} (h:P mv):mV s P mv s:=⟨h,s.toks,rfl⟩
section
variable {prog:Program} {w:World} {A:Around} {E:Value→Shared→Prop} {s:Shared} {ρ:List Addr} {N:Addr→Prop}
theorem bw (a:List Nat):((⟨a.toArray⟩:Str)).length=a.length:=by rw [Str.length,List.size_toArray]
theorem dn (a b:List Nat):(⟨a.toArray⟩:Str)++(⟨b.toArray⟩:Str)=⟨(a++b).toArray⟩:=by
 show Str.append _ _=_
 simp [Str.append]
theorem Rel.nil (t:Tok) {m:Value} (e:m=.str ⟨#[]⟩ t):Rel s.heap ρ N (.str []) m:=e▸.str (cs:=[]) t (Nat.zero_le _) fun _ h=>absurd h List.not_mem_nil
theorem te {op:Operator} {va vb v:V} {ma mb:Value} (e:Bin op va vb v) (ra:Rel s.heap ρ N va ma) (rb:Rel s.heap ρ N vb mb):
  wpAny (model prog w) A (binaryOp op ma mb) (mV s fun mv=>Rel s.heap ρ N v mv) E s:=by
 cases e with
 | add a b=>
  obtain ⟨t,rfl⟩:=ra.int_inv
  obtain ⟨u,rfl⟩:=rb.int_inv
  exact P.add_int ⟨.int _ _,_,rfl⟩
 | sub a b=>
  obtain ⟨t,rfl⟩:=ra.int_inv
  obtain ⟨u,rfl⟩:=rb.int_inv
  exact P.sub_int ⟨.int _ _,_,rfl⟩
 | mul h=>
  obtain ⟨t,rfl⟩:=ra.int_inv
  obtain ⟨u,rfl⟩:=rb.int_inv
  refine P.mul_int ⟨.int _ _,_,rfl⟩ ?_
  rcases h with h | h
  ·exact IntMulOk.of_left (intBits_le_64 (by lia) (by lia))
  ·exact IntMulOk.of_right (intBits_le_64 (by lia) (by lia))
 | div h0 h1=>
  obtain ⟨t,rfl⟩:=ra.int_inv
  obtain ⟨u,rfl⟩:=rb.int_inv
  exact floordiv_int (fun q=>by rw [q] at h0; cases h0) ⟨by rw [Int.fdiv_eq_ediv_of_nonneg _ (Int.le_of_lt h0)]; exact .int _ _,_,rfl⟩ (.inl (PyProof.noPylong_small (by lia)))
 | mod h0=>
  obtain ⟨t,rfl⟩:=ra.int_inv
  obtain ⟨u,rfl⟩:=rb.int_inv
  exact mod_int' (fun q=>by rw [q] at h0; cases h0) ⟨by rw [Int.fmod_eq_emod_of_nonneg _ (Int.le_of_lt h0)]; exact .int _ _,_,rfl⟩
 | pow h0 h1 h2=>
  obtain ⟨t,rfl⟩:=ra.int_inv
  obtain ⟨u,rfl⟩:=rb.int_inv
  exact pow_int_small h0 (by exact (Int.le_of_lt (Int.lt_of_le_of_lt h1 (show (1000:Int) < 1000000 by decide)))) (by lia) ⟨.int _ _,_,rfl⟩
 | @cat a b hs=>
  obtain ⟨t,rfl,ha,ha'⟩:=ra.str_inv
  obtain ⟨u,rfl,hb,hb'⟩:=rb.str_inv
  have fits:(a++b).length≤ay:=by rw [List.length_append]; unfold ay; exact lin [_,_] [(1,.a (.v 0) (.v 1),.n 16000000)] 1 (.a (.v 0) (.v 1)) (.n 16777216) rfl hs
  have all: ∀ c∈a++b,c < 128:=fun c hc=>(List.mem_append.mp hc).elim (ha' c) (hb' c)
  refine P.add_str ?_
  rw [bw,bw]
  by_cases h0:(a.length == 0)=true
  ·rw [if_pos h0]
   obtain rfl:a=[]:=List.eq_nil_of_length_eq_zero (beq_iff_eq.mp h0)
   exact .now (.str _ fits all)
  ·rw [if_neg h0]
   by_cases h1:(b.length == 0)=true
   ·rw [if_pos h1]
    obtain rfl:b=[]:=List.eq_nil_of_length_eq_zero (beq_iff_eq.mp h1)
    exact .now (by rw [List.append_nil]; exact .str _ ha ha')
   ·rw [if_neg h1]
    rw [dn]
    refine ⟨by rw [bw]; exact fits,?_⟩
    exact ⟨.str _ fits all,_,rfl⟩
end
end
noncomputable section
open PySem PyProof.Rows PySem.Spec PySem.SeqAt Builtin.Str
variable {γ:Gh}
theorem Inv.view {C:Cx} {ρ:List Addr} {H:List HO} {s:Shared} (I:Inv C γ ρ H s) {v:V} {m:Value} {xs:List V} (r:Rel s.heap ρ (Nl γ ρ H) v m) (e:gc H v xs):
  ∃ a ms,m=.ref a∧s.heap.PlainList a ms.toArray∧aI s.heap ρ (Nl γ ρ H) xs ms∧xs.length≤ay:=by
 cases e with
 | lst _=>
  obtain ⟨a,ms,rfl,h1,_,h2,h3⟩:=r.lst_inv
  exact ⟨a,ms,rfl,h1,h3,h2⟩
 | loc h=>
  obtain ⟨a,rfl,ha⟩:=r.loc_inv
  obtain ⟨ms,h1,h2,h3⟩:=I.obj _ _ _ ha h
  exact ⟨a,ms,rfl,h1,h2,h3⟩
section
variable {prog:Program} {w:World} {A:Around} {E:Value→Shared→Prop} {s:Shared}
theorem gV (slice:Expr) (o i:Value): ∃ ops,subscripted slice false o i=operate ops (getItem o i):=by
 unfold subscripted
 split
 ·exact ⟨_,rfl⟩
 ·rename_i h; cases h
 ·exact ⟨_,rfl⟩
theorem fC {value slice:Expr} {o i:Value} {T id:String} {Q:Value→Shared→Prop} (hT:s.TypeIs o T)
  (hl:typeLookup (.type T) "__getitem__" =pure (some (.builtin id))) (h:wpAny (model prog w) A (getItem o i) Q E s):wpAny (model prog w) A (subscriptTail value slice o i) Q E s:=by
 unfold subscriptTail
 refine wpAny_bind ?_
 rw [getitemInPython_of_ne hT.not_modules]
 refine wpAny_bind (wpAny_specialOf hT hl ?_)
 obtain ⟨ops,hs⟩:=gV slice o i
 have fin:wpAny (model prog w) A (subscripted slice false o i) (fun r s₃=>wpAny (model prog w) A (letTemporaryGo value o r >>= fun _=>pure r) Q E s₃) E s:=by
  rw [hs]
  exact wpAny_operating (wpAny_mono h (fun r s₃ h₃=>wpAny_bind (wpAny_letTemporaryGo (wpAny_pure h₃))) fun _ _ x=>x)
 first
  | exact wpAny_pure (wpAny_bind fin)
  | exact wpAny_bind (wpAny_pure (wpAny_bind fin))
  | exact wpAny_bind fin
end
theorem fM {ρ:List Addr} {H:List HO} {a b:Addr} {o:HO} (hl:ρ.length=H.length) (q:Lv (ρ++[a]) (H++[o]) b):Lv ρ H b∨b=a:=by
 obtain ⟨i,x,h1,h2,h3⟩:=q
 rcases Nat.lt_trichotomy i ρ.length with h | h | h
 ·rw [List.getElem?_append_left h] at h1
  rw [List.getElem?_append_left (hl▸h)] at h2
  exact .inl ⟨i,x,h1,h2,h3⟩
 ·subst h
  simp at h1
  exact .inr h1.symm
 ·have:(ρ++[a])[i]?= none:=List.getElem?_eq_none (by rw [List.length_append,List.length_singleton]; exact h)
  rw [this] at h1; cases h1
structure bP (s s':Shared):Prop where
 keep: ∀ b o,s.heap.get? b=some o→s'.heap.get? b=some o
 gens:s'.gens=s.gens
 os:s'.os=s.os
theorem bP.refl (s:Shared):bP s s:=⟨fun _ _ e=>e,rfl,rfl⟩
theorem bP.trans {a b c:Shared} (x:bP a b) (y:bP b c):bP a c:=⟨fun _ _ e=>y.keep _ _ (x.keep _ _ e),y.gens.trans x.gens,y.os.trans x.os⟩
theorem bP.push (s:Shared) (o:Obj) (tk:Nat):bP s { s with heap:=s.heap.push o,toks:=tk }:=⟨fun _ _ e=>Heap.get?_push_of_some _ e,rfl,rfl⟩
theorem bP.toks (s:Shared) (tk:Nat):bP s { s with toks:=tk }:=⟨fun _ _ e=>e,rfl,rfl⟩
theorem bP.stp {ρ:List Addr} {H:List HO} {s s':Shared} (g:bP s s'):Stp ρ H s ρ H s':=.of_keep g.keep
theorem bP.inv {C:Cx} {ρ:List Addr} {H:List HO} {s s':Shared} (g:bP s s') (I:Inv C γ ρ H s):Inv C γ ρ H s':=I.of_keep g.keep g.gens g.os
theorem Inv.none_above {C:Cx} {ρ:List Addr} {H:List HO} {s:Shared} (I:Inv C γ ρ H s) {a:Addr} (h:s.heap.get? a=none):C.base.get? a=none:=by
 cases e:C.base.get? a with
 | none=>rfl
 | some o=>rw [I.base _ _ e] at h; cases h
theorem Inv.not_live {C:Cx} {ρ:List Addr} {H:List HO} {s:Shared} (I:Inv C γ ρ H s) {a:Addr} (h:s.heap.get? a=none): ¬ Nl γ ρ H a:=fun q=>by
 rcases q with q | q
 case inr=>obtain ⟨o,e⟩:=I.held a q; rw [h] at e; cases e
 obtain ⟨i,o,h1,_,_⟩:=q
 obtain ⟨o,e⟩:=I.there _ (List.mem_of_getElem? h1)
 rw [h] at e; cases e
theorem aJ (h:Heap):h.get? h.objs.size=none:=by
 cases e:h.get? h.objs.size with
 | none=>rfl
 | some o=>exact absurd (Heap.lt_size e) (Nat.lt_irrefl _)
theorem kU {C:Cx} {ρ:List Addr} {H:List HO} {s s':Shared} (I:Inv C γ ρ H s) (g:bP s s') {a:Addr} {o:HO} (ha:s.heap.get? a=none):
  cG s.heap ρ (Lv ρ H) s'.heap (ρ++[a]) (Lv (ρ++[a]) (H++[o])):=
 ⟨fun _ x e _=>⟨x,g.keep _ _ e,.refl x⟩,fun b e=>(fM I.len e).imp id fun (q:b=a)=>by rw [q]; exact ha,fun i b e=>by rw [List.getElem?_append_left (List.getElem?_eq_some_iff.mp e).1]; exact e⟩
theorem Inv.snoc {C:Cx} {ρ:List Addr} {H:List HO} {s s':Shared} (I:Inv C γ ρ H s) (g:bP s s') {a:Addr} {o:HO} (ha:s.heap.get? a=none) (ha': ∃ x,s'.heap.get? a=some x)
  (r:tO C s'.heap (ρ++[a]) (Nl γ (ρ++[a]) (H++[o])) o a):Inv C γ (ρ++[a]) (H++[o]) s'∧Stp ρ H s (ρ++[a]) (H++[o]) s':=by
 have k:=kU I g (o:=o) ha
 refine ⟨⟨fun b x e=>g.keep _ _ (I.base b x e),by simp [I.len],?_,?_,?_,?_,?_,?_,fun b q=>(let ⟨o,e⟩:=I.held b q; ⟨o,g.keep _ _ e⟩),I.off,(fun b q=>let ⟨o,es,n,e,d⟩:=I.frm b q; ⟨o,es,n,g.keep _ _ e,d⟩),I.hdl' k,(fun z=>I.hq (hU z)),g.gens.trans I.gens,g.os.trans I.os⟩,⟨k⟩⟩
 ·refine List.nodup_append.mpr ⟨I.nodup,by simp,fun x hx y hy q=>?_⟩
  obtain ⟨z,hz⟩:=I.there x hx
  simp at hy; subst hy; subst q
  rw [ha] at hz; cases hz
 ·intro b hb
  rcases List.mem_append.mp hb with h | h
  ·exact I.fresh b h
  ·simp at h; subst h; exact I.none_above ha
 ·intro b hb
  rcases List.mem_append.mp hb with h | h
  ·obtain ⟨z,hz⟩:=I.there b h; exact ⟨z,g.keep _ _ hz⟩
  ·simp at h; subst h; exact ha'
 ·intro i b x e1 e2
  rcases Nat.lt_trichotomy i ρ.length with h | h | h
  ·rw [List.getElem?_append_left h] at e1
   rw [List.getElem?_append_left (I.len▸h)] at e2
   exact (I.obj i b x e1 e2).kept k.gh fun y hy=>g.keep _ _ hy
  ·subst h
   rw [List.getElem?_append_right (Nat.le_refl _)] at e1
   rw [I.len,List.getElem?_append_right (Nat.le_refl _)] at e2
   simp at e1 e2
   subst e1; subst e2
   exact r
  ·have:(ρ++[a])[i]?= none:=List.getElem?_eq_none (by rw [List.length_append,List.length_singleton]; exact h)
   rw [this] at e1; cases e1
 ·intro b hb q
  rcases List.mem_append.mp hb with h | h
  ·exact I.apart b h q
  ·simp at h; subst h; obtain ⟨o,e⟩:=I.held _ q; rw [ha] at e; cases e
 ·intro i b o' e1 q e2
  rcases Nat.lt_trichotomy i ρ.length with h | h | h
  ·rw [List.getElem?_append_left h] at e1
   rw [List.getElem?_append_left (I.len▸h)] at e2
   exact I.bor i b o' e1 q e2
  ·subst h
   rw [List.getElem?_append_right (Nat.le_refl _),Nat.sub_self] at e1
   cases e1
   obtain ⟨o,e⟩:=I.held _ (γ.bh _ q); rw [ha] at e; cases e
  ·rw [List.getElem?_eq_none (by rw [List.length_append,List.length_singleton]; exact h)] at e1; cases e1
noncomputable def cw (s:Shared) (ρ:List Addr) (N:Addr→Prop) (vs:List V) (mv:Value) (s':Shared):Prop:=
 ∃ a ms,mv=.ref a∧s.heap.get? a=none∧bP s s'∧s'.heap.PlainList a ms.toArray∧aI s.heap ρ N vs ms∧vs.length≤ay
theorem cc {h:Heap} {a:Addr} {xs:Array Value} (x:h.PlainList a xs): ∃ o,h.get? a=some o:=let ⟨_,ho⟩:=x; ⟨_,ho⟩
theorem cw.post {C:Cx} {ρ:List Addr} {st:St} {s s':Shared} {vs:List V} {Q:V→St→Prop} {mv:Value} (I:Inv C γ ρ st.H s) (h:kO vs st Q) (n:cw s ρ (Nl γ ρ st.H) vs mv s'):ek C γ ρ st s Q mv s':=by
 obtain ⟨a,ms,rfl,ha,g,hl,hr,hlen⟩:=n
 rcases h with h | h
 ·exact ⟨_,st,ρ,h,rfl,.lst hl (I.not_live ha) hlen (hr.kept g.stp.kept),g.inv I,g.stp⟩
 ·have k:=kU I g (o:=.list vs) ha
  obtain ⟨I',S'⟩:=I.snoc g (o:=.list vs) ha (cc hl) ⟨ms,hl,hr.kept k.gh,hlen⟩
  exact ⟨_,_,ρ++[a],h,rfl,.loc (by rw [← I.len]; simp),I',S'⟩
theorem mV.post {C:Cx} {ρ:List Addr} {st:St} {s s':Shared} {v:V} {Q:V→St→Prop} {mv:Value} (I:Inv C γ ρ st.H s) (h:Q v st) (n:mV s (fun mv=>Rel s.heap ρ (Nl γ ρ st.H) v mv) mv s'):ek C γ ρ st s Q mv s':=by
 obtain ⟨r,tk,rfl⟩:=n
 exact ⟨v,st,ρ,h,rfl,r,(bP.toks s tk).inv I,(bP.toks s tk).stp⟩
section
variable {C:Cx} {A:Around} {E:Value→Shared→Prop} {s:Shared} {ρ:List Addr} {N:Addr→Prop} {H:List HO}
theorem kJ {vs:List V} {ms:List Value} (r:aI s.heap ρ N vs ms) (hlen:vs.length≤ay):wpAny C.M A (newList ms) (cw s ρ N vs) E s:=by
 unfold newList
 refine wpAny_newObj_type ?_ ?_
 ·exact ⟨_,ms,rfl,aJ _,bP.push s _ s.toks,⟨_,Heap.get?_push_size _ rfl⟩,r,hlen⟩
 ·show ms.toArray.size≤sizeLine
  rw [bi,List.size_toArray,← r.length]; exact hlen
theorem jM {vs:List V} {ms:List Value} (I:Inv C γ ρ H s) (r:aI s.heap ρ (Nl γ ρ H) vs ms) (hlen:vs.length≤ay):
  wpAny C.M A (newTuple ms) (fun mv s'=>Rel s'.heap ρ (Nl γ ρ H) (.tup vs) mv∧bP s s') E s:=by
 unfold newTuple
 refine wpAny_newObj_type ?_ ?_
 ·have g:=bP.push s { cls:=.type "tuple",data:=.seq ms.toArray } s.toks
  exact ⟨.tup ⟨_,Heap.get?_push_size _ rfl,rfl,_,rfl⟩ (I.not_live (aJ _)) hlen (r.kept g.stp.kept),g⟩
 ·show ms.toArray.size≤sizeLine
  rw [bi,List.size_toArray,← r.length]; exact hlen
theorem mj {vs:List V} {a:Addr} {ms:List Value} (hl:s.heap.PlainList a ms.toArray) (r:aI s.heap ρ N vs ms) (hlen:vs.length≤ay):wpAny C.M A (call (.type "list") [.ref a]) (cw s ρ N vs) E s:=by
 obtain ⟨o,ho,hc,n,hd⟩:=hl.isList
 refine call_list_seq (hsz:=by rw [bi,List.size_toArray,← r.length]; exact hlen) a (.inl rfl) ho hc hd fun h' c' hk hD=>?_
 ·exact ⟨_,ms,rfl,aJ _,⟨hk,rfl,rfl⟩,⟨c',hD⟩,r,hlen⟩
theorem tc {a b:Addr} {xs ys:List V} {ms ns:List Value} (hl:s.heap.PlainList a ms.toArray) (hb:s.heap.PlainList b ns.toArray) (r:aI s.heap ρ N xs ms) (q:aI s.heap ρ N ys ns) (hlen:xs.length+ys.length≤16000000):
  wpAny C.M A (binaryOp .Add (.ref a) (.ref b)) (cw s ρ N (xs++ys)) E s:=by
 obtain ⟨n,ho⟩:=hl
 obtain ⟨n2,ho2⟩:=hb
 have e:ms.toArray++ns.toArray=(ms++ns).toArray:=by simp
 refine concat_meets ⟨_,ho,rfl⟩ ⟨_,ho2,rfl⟩ noFill_list_add seq_list_add PySem.F.slot_list_add PySem.F.entry_list_add (PySem.F.args_list_add_2 _ _)
  (list_addW a b ms.toArray ns.toArray n n2 none none #[] #[] ?_) ⟨ho,ho2,?_⟩
 ·rw [bi]; simp only [List.size_toArray,← r.length,← q.length,ay]; exact lin [_,_] [(1,.a (.v 0) (.v 1),.n 16000000)] 1 (.a (.v 0) (.v 1)) (.n 16777216) rfl hlen
 ·rw [e]
  exact ⟨_,ms++ns,rfl,aJ _,bP.push s _ s.toks,⟨_,Heap.get?_push_size _ rfl⟩,r.append q,by simp only [List.length_append,ay]; exact lin [_,_] [(1,.a (.v 0) (.v 1),.n 16000000)] 1 (.a (.v 0) (.v 1)) (.n 16777216) rfl hlen⟩
theorem mf {n:Int} {t:Tok} (I:Inv C γ ρ H s):wpAny C.M A (call (.type "range") [.int n t]) (fun mv s'=>Rel s'.heap ρ (Nl γ ρ H) (.rng 0 n 1) mv∧bP s s') E s:=
 call_range_1 ⟨.rng (IsRange.new ..) (I.not_live (aJ _)),bP.push s _ _⟩
theorem me {a b:Int} {t u:Tok} (I:Inv C γ ρ H s):wpAny C.M A (call (.type "range") [.int a t,.int b u]) (fun mv s'=>Rel s'.heap ρ (Nl γ ρ H) (.rng a b 1) mv∧bP s s') E s:=
 call_range_2 ⟨.rng (IsRange.new ..) (I.not_live (aJ _)),bP.push s _ _⟩
end
section
variable {C:Cx} {A:Around} {E:Value→Shared→Prop} {s:Shared} {ρ:List Addr} {H:List HO}
theorem fP {k:Int} {n:Nat} (h0:0≤k) (h:k.toNat < n):seqIndex? k n=some k.toNat:=by
 unfold seqIndex?
 have h1: ¬ k < 0:=by exact Int.not_lt.mpr h0
 simp only [h1,if_false]
 simp
 lia
theorem small {xs:List V} {i:Int} {x:V} (hl:xs.length≤ay) (he:xs[i.toNat]?= some x):i < 2 ^ 63:=by
 have:=(List.getElem?_eq_some_iff.mp he).1
 unfold ay at hl; lia
theorem tb {value slice:Expr} {va vi v:V} {ma mi:Value} (I:Inv C γ ρ H s) (e:Idx H va vi v) (ra:Rel s.heap ρ (Nl γ ρ H) va ma) (ri:Rel s.heap ρ (Nl γ ρ H) vi mi):
  wpAny C.M A (subscriptTail value slice ma mi) (mV s fun mv=>Rel s.heap ρ (Nl γ ρ H) v mv) E s:=by
 cases e with
 | @seq _ _ _ i w h0 hx=>
  obtain ⟨u,rfl⟩:=ri.int_inv
  obtain ⟨a,ms,rfl,hl,hr,hlen⟩:=I.view ra w
  obtain ⟨m,hm,hrm⟩:=hr.get hx
  exact fC hl.isList.typeIs slot_list_getitem.lookup (wpAny_getItem_list hl.isList h0 (small hlen hx) (by rw [List.getElem?_toArray]; exact hm) (.now hrm))
 | @tup _ _ i h0 hx=>
  obtain ⟨u,rfl⟩:=ri.int_inv
  obtain ⟨a,ms,rfl,hl,_,hlen,hr⟩:=ra.tup_inv
  obtain ⟨m,hm,hrm⟩:=hr.get hx
  exact fC (T:= "tuple") (let ⟨o,ho,hc,_⟩:=hl; ⟨o,ho,hc⟩) slot_tuple_getitem.lookup (getItem_tuple (items:=_) hl (Int.le_trans (by decide) h0) (small hlen hx) (j:=i.toNat) (fP h0 (by rw [List.size_toArray]; exact (List.getElem?_eq_some_iff.mp hm).1)) (by rw [List.getElem?_toArray]; exact hm) (.now hrm))
 | @str cs c i h0 hx=>
  obtain ⟨u,rfl⟩:=ri.int_inv
  obtain ⟨t,rfl,hlen,ha⟩:=ra.str_inv
  have hlt:=(List.getElem?_eq_some_iff.mp hx).1
  refine fC (typeIs_str _ _ _) F.slot_str_getitem.lookup (P.getItem_str (c:=c) ?_ ?_ ⟨?_,_,rfl⟩)
  ·unfold ay at hlen; simp; lia
  ·rw [bw,fP h0 hlt]; simpa using hx
  ·exact .str (cs:=[c]) _ (show 1≤16777216 by decide) fun x hc=>by rw [List.mem_singleton.mp hc]; exact ha c (List.mem_of_getElem? hx)
 | @keyS k _ i kvs h hl=>
  obtain ⟨t,rfl,_⟩:=ri.str_inv
  obtain ⟨a,rfl,ha⟩:=ra.loc_inv
  obtain ⟨ms,hd,hr,_⟩:=I.obj _ a _ ha h
  have g:=hr.get jK k
  rw [hl] at g
  obtain ⟨mv,g1,g2⟩:=g
  exact fC hd.typeIs slot_dict_getitem.lookup (wpAny_getItem_of (strKind_is _ _ (sOf k) t) hd.mapOf g1 ⟨g2,_,rfl⟩)
theorem sZ {v:V} {n:Nat} {m:Value} (I:Inv C γ ρ H s) (e:zB H v n) (q:Rel s.heap ρ (Nl γ ρ H) v m):
  wpAny C.M A (call (.builtin "len") [m]) (mV s fun mv=>Rel s.heap ρ (Nl γ ρ H) (.int n) mv) E s:=by
 cases e with
 | str cs=>
  obtain ⟨t,rfl,hlen,_⟩:=q.str_inv
  exact P.len_str (by rw [bw]; unfold ay at hlen; lia) ⟨by rw [bw]; exact .int _ _,_,rfl⟩
 | tup vs=>
  obtain ⟨a,ms,rfl,hl,_,hlen,hr⟩:=q.tup_inv
  exact len_tuple hl (by rw [List.size_toArray,← hr.length]; unfold ay at hlen; lia) ⟨by rw [List.size_toArray,← hr.length]; exact .int _ _,_,rfl⟩
 | seq w=>
  obtain ⟨a,ms,rfl,hl,hr,hlen⟩:=I.view q w
  exact len_list hl.isList (by rw [List.size_toArray,← hr.length]; unfold ay at hlen; lia) ⟨by rw [List.size_toArray,← hr.length]; exact .int _ _,_,rfl⟩
end
noncomputable def tyNames:List String:=["int", "bool", "str", "list", "tuple"]
theorem eF {T:String} (h:T∈tyNames):typeOf (.type T)=pure (.type "type"):=by
 simp only [tyNames,List.mem_cons,List.not_mem_nil,or_false] at h
 rcases h with rfl | rfl | rfl | rfl | rfl
 ·exact F.isi_meta_int
 ·exact F.isi_meta_bool
 ·exact F.isi_meta_str
 ·exact F.isi_meta_list
 ·exact F.isi_meta_tuple
theorem gW {X T:String} (hX:X∈("NoneType" ::tyNames)) (h:T∈tyNames):isSubtype (.type X) (.type T)=pure (sy X T):=by
 simp only [tyNames,List.mem_cons,List.not_mem_nil,or_false] at h hX
 rcases h with rfl | rfl | rfl | rfl | rfl<;>rcases hX with rfl | rfl | rfl | rfl | rfl | rfl<;>(rw [isSubtype_type]; kernel_rfl)
section
variable {C:Cx} {A:Around} {E:Value→Shared→Prop} {s:Shared} {ρ:List Addr} {H:List HO}
theorem cL {X T:String} (h:sy X T=false):(Value.type X == Value.type T)=false:=by
 cases q:(Value.type X == Value.type T) with
 | false=>rfl
 | true=>
  have e:=beq_iff_eq.mp q
  injection e with e
  subst e
  simp [sy] at h
theorem ta {v:V} {X T:String} {m:Value} (I:Inv C γ ρ H s) (hT:T∈tyNames) (e:sD H v X) (r:Rel s.heap ρ (Nl γ ρ H) v m):
  wpAny C.M A (call (.builtin "isinstance") [m,.type T]) (mV s fun mv=>Rel s.heap ρ (Nl γ ρ H) (.bool (sy X T)) mv) E s:=by
 have fin:X∈ "NoneType" ::tyNames→s.TypeIs m X→(sy X T=false→wpAny C.M A (call (.builtin "isinstance") [m,.type T]) (mV s fun mv=>Rel s.heap ρ (Nl γ ρ H) (.bool false) mv) E s)→
   wpAny C.M A (call (.builtin "isinstance") [m,.type T]) (mV s fun mv=>Rel s.heap ρ (Nl γ ρ H) (.bool (sy X T)) mv) E s:=fun hX hx no=>by
  cases hb:sy X T with
  | true=>exact call_isinstance (isinstance_true (Tx:=X) (eF hT) (by rw [gW hX hT,hb])) ⟨hx,.now (.bool _)⟩
  | false=>exact no hb
 cases e with
 | int i=>obtain ⟨t,rfl⟩:=r.int_inv; exact fin (by decide) (typeIs_int ..) fun q=>call_isinstance (isinstance_false_int (cL q) (eF hT) (by rw [gW (by decide) hT,q])) (.now (.bool _))
 | bool b=>obtain rfl:=r.bool_inv; exact fin (by decide) rfl fun q=>call_isinstance (isinstance_false_bool (cL q) (eF hT) (by rw [gW (by decide) hT,q])) (.now (.bool _))
 | str cs=>obtain ⟨t,rfl,_⟩:=r.str_inv; exact fin (by decide) (typeIs_str ..) fun q=>call_isinstance (isinstance_false_str (cL q) (eF hT) (by rw [gW (by decide) hT,q])) (.now (.bool _))
 | none=>obtain rfl:=r.none_inv; exact fin (by decide) rfl fun q=>call_isinstance (isinstance_false_none (cL q) (eF hT) (by rw [gW (by decide) hT,q])) (.now (.bool _))
 | tup vs=>
  obtain ⟨a,ms,rfl,⟨o,ho,hc,_⟩,_⟩:=r.tup_inv
  exact fin (by decide) ⟨o,ho,hc⟩ fun q=>call_isinstance (isinstance_false_tuple (cL q) (eF hT) (by rw [gW (by decide) hT,q])) ⟨⟨o,ho,hc⟩,.now (.bool _)⟩
 | seq w=>
  obtain ⟨a,ms,rfl,hl,_⟩:=I.view r w
  obtain ⟨o,ho,hc,_⟩:=hl.isList
  exact fin (by decide) ⟨o,ho,hc⟩ fun q=>call_isinstance (isinstance_false_list (cL q) (eF hT) (by rw [gW (by decide) hT,q])) ⟨⟨o,ho,hc⟩,.now (.bool _)⟩
theorem lZ {i:Int} {t:Tok} (h:i.natAbs < 10 ^ 100):wpAny C.M A (call (.type "str") [.int i t]) (mV s fun mv=>Rel s.heap ρ (Nl γ ρ H) (.str (ar i)) mv) E s:=by
 have hl:i.natAbs.log2 < 1920:=by
  by_cases h0:i.natAbs=0
  ·rw [h0]; decide
  ·exact (Nat.log2_lt h0).mpr (Nat.lt_trans h (by decide +kernel))
 refine P.str_of_int hl ⟨?_,_,rfl⟩
 have e:Str.ofString (toString i)=⟨(ar i).toArray⟩:=by rw [Str.ofString_eq_toList]; rfl
 rw [e]
 have fits:=int_text_fits hl
 rw [e] at fits
 refine .str _ (by rw [← bi]; simpa [Str.length] using fits) fun c hc=>?_
 unfold ar at hc
 obtain ⟨ch,hch,rfl⟩:=List.mem_map.mp hc
 exact int_ascii i ch hch
theorem kK {b:Bool}:wpAny C.M A (call (.type "int") [.bool b]) (mV s fun mv=>Rel s.heap ρ (Nl γ ρ H) (.int (if b then 1 else 0)) mv) E s:=
 call_int_bool ⟨.int _ _,_,rfl⟩
end
theorem dW {h:Heap} {ρ:List Addr} {N:Addr→Prop}:(∀ {v:V} {m:Value},Rel h ρ N v m→∀ n:Nat,pl n v=true→(∃ as,Reads h m (pU v) as)∧(pU v).canLay0=true∧(pU v).depth≤n)∧
  ∀ {vs:List V} {ms:List Value},aI h ρ N vs ms→∀ n:Nat,vs.all (pl n)=true→(∃ as,ReadsAll h ms (ew vs) as)∧PyData.canLayAll0 (ew vs)=true∧PyData.depthAll (ew vs)≤n:=
 Rel.both (fun n _=>⟨⟨_,.none⟩,rfl,Nat.zero_le n⟩) (fun b n _=>⟨⟨_,.bool b⟩,rfl,Nat.zero_le n⟩) (fun i t n _=>⟨⟨_,.int i t⟩,rfl,Nat.zero_le n⟩)
  (fun {cs} t _ ha n _=>⟨⟨_,.str _ t⟩,by
   simp only [pU,PyData.canLay0,PyData.strOk]
   rw [← Array.all_toList]
   simp only [List.all_eq_true]
   intro c hc
   have:=ha c hc
   simp; exact lin [c] [(1,.a (.v 0) (.n 1),.n 128)] 1 (.a (.v 0) (.n 1)) (.n 1114112) rfl this,Nat.zero_le n⟩)
  (fun ⟨o,ho,hc,_,hd⟩ _ _ r n e=>by
   cases n with
   | zero=>cases e
   | succ n=>obtain ⟨⟨as,x⟩,h1,h2⟩:=r n e; exact ⟨⟨_,.tuple ho hc hd x⟩,h1,by simp only [pU,PyData.depth]; exact li [_,n] [([1],[2])] [1,0] [2,0] rfl h2⟩)
  (fun ⟨_,ho⟩ _ _ r n e=>by
   cases n with
   | zero=>cases e
   | succ n=>obtain ⟨⟨as,x⟩,h1,h2⟩:=r n e; exact ⟨⟨_,.list ho rfl rfl x⟩,h1,by simp only [pU,PyData.depth]; exact li [_,n] [([1],[2])] [1,0] [2,0] rfl h2⟩)
  (fun _ _ n e=>by cases n<;>cases e) (fun _ n e=>by cases n<;>cases e) (fun n _=>⟨⟨_,.nil⟩,rfl,Nat.zero_le n⟩) fun a r n e=>by
   obtain ⟨e1,e2⟩:=Bool.and_eq_true_iff.mp e
   obtain ⟨⟨as,x⟩,a1,a2⟩:=a n e1
   obtain ⟨⟨bs,y⟩,r1,r2⟩:=r n e2
   refine ⟨⟨_,.cons x y⟩,?_⟩
   simp only [ew,PyData.canLayAll0,PyData.depthAll,a1,r1,Bool.and_self,true_and]
   lia
theorem dg {C:Cx} {ρ:List Addr} {H:List HO} {s:Shared} (I:Inv C γ ρ H s) {v v':V} {m:Value} (r:Rel s.heap ρ (Nl γ ρ H) v m) (d:mW H v v') (e:pl 6 v'=true):(∃ as,Reads s.heap m (pU v') as)∧shaped (pU v')=true:=by
 cases d with
 | self _=>
  obtain ⟨h1,h2,h3⟩:=dW.1 r 6 e
  exact ⟨h1,by rw [shaped,h2,Bool.true_and,decide_eq_true_eq]; exact lin [_] [(1,.v 0,.n 6)] 1 (.v 0) (.n 64) rfl h3⟩
 | loc h=>
  obtain ⟨a,ms,rfl,hl,hr,hlen⟩:=I.view r (.loc h)
  obtain ⟨o,ho,hc,k,hd⟩:=hl.isList
  obtain ⟨⟨as,x⟩,h1,h2⟩:=dW.2 hr 5 e
  refine ⟨⟨_,.list ho hc hd x⟩,?_⟩
  simp only [shaped,pU,PyData.canLay0,PyData.depth,h1,Bool.true_and,decide_eq_true_eq]; exact lin [_] [(1,.v 0,.n 5)] 1 (.a (.v 0) (.n 1)) (.n 64) rfl h2
theorem kA (a b:List Nat):((⟨a.toArray⟩:Str) == ⟨b.toArray⟩)=(a == b):=by
 rw [Bool.eq_iff_iff]
 simp
theorem kl (i:Int): ∀ ns:List Int,((ew (ns.map .int)).any fun y=>PyData.eqv y (.int i))=decide (i∈ns)∧(ns.map V.int).all (pl 1)=true
 | []=>⟨rfl,rfl⟩
 | n::ns=>by
  refine ⟨?_,(kl i ns).2⟩
  show ((n == i) || (ew (ns.map .int)).any fun y=>PyData.eqv y (.int i))=_
  rw [(kl i ns).1,Bool.eq_iff_iff]
  simp only [Bool.or_eq_true,beq_iff_eq,decide_eq_true_eq,List.mem_cons]
  exact ⟨fun h=>h.imp Eq.symm id,fun h=>h.imp Eq.symm id⟩
theorem kj (t:List Nat): ∀ ss:List (List Nat),((ew (ss.map .str)).any fun y=>PyData.eqv y (.str ⟨t.toArray⟩))=decide (t∈ss)∧(ss.map V.str).all (pl 1)=true
 | []=>⟨rfl,rfl⟩
 | n::ns=>by
  refine ⟨?_,(kj t ns).2⟩
  show (((⟨n.toArray⟩:Str) == ⟨t.toArray⟩) || (ew (ns.map .str)).any fun y=>PyData.eqv y (.str ⟨t.toArray⟩))=_
  rw [(kj t ns).1,Bool.eq_iff_iff,kA]
  simp only [Bool.or_eq_true,beq_iff_eq,decide_eq_true_eq,List.mem_cons]
  exact ⟨fun h=>h.imp Eq.symm id,fun h=>h.imp Eq.symm id⟩
section
variable {C:Cx} {A:Around} {E:Value→Shared→Prop} {s:Shared} {ρ:List Addr} {H:List HO}
theorem Rel.not_none {h:Heap} {N:Addr→Prop} {v:V} {m:Value} (r:Rel h ρ N v m) (hv:v≠.none):m≠.none:=by
 cases r<;>first | exact absurd rfl hv | (intro x; cases x)
theorem qI {va vb:V} {r:Bool} {ma mb:Value} (I:Inv C γ ρ H s) (hu:A.units+65 < cLine) (e:InR H va vb r) (ra:Rel s.heap ρ (Nl γ ρ H) va ma) (rb:Rel s.heap ρ (Nl γ ρ H) vb mb):
  (∀ Q:Value→Shared→Prop,(∀ tk,Q (.bool r) { s with toks:=tk })→wpAny C.M A (compareOp .In ma mb) Q E s)∧∀ Q:Value→Shared→Prop,(∀ tk,Q (.bool !r) { s with toks:=tk })→wpAny C.M A (compareOp .NotIn ma mb) Q E s:=by
 have go: ∀ {d:PyData} {xs:List V},gc H vb xs→xs.all (pl 1)=true→Reads s.heap ma d []→d.canLay0=true→d.depth=0→((ew xs).any fun y=>PyData.eqv y d)=r→
   (∀ Q:Value→Shared→Prop,(∀ tk,Q (.bool r) { s with toks:=tk })→wpAny C.M A (compareOp .In ma mb) Q E s)∧∀ Q:Value→Shared→Prop,(∀ tk,Q (.bool !r) { s with toks:=tk })→wpAny C.M A (compareOp .NotIn ma mb) Q E s:=fun {d xs} w h2 rd hd d0 h1=>by
  obtain ⟨a,ms,rfl,hl,hr,hlen⟩:=I.view rb w
  obtain ⟨o,ho,hc,n,hdd⟩:=hl.isList
  obtain ⟨⟨as,x⟩,s1,s2⟩:=dW.2 hr 1 h2
  have room:A.units+1+min (PyData.depthAll (ew xs)) d.depth < cLine:=by rw [d0,Nat.min_zero]; exact lin [_,_] [(1,.a (.a (.v 0) (.n 65)) (.n 1),.v 1)] 1 (.a (.a (.a (.v 0) (.n 1)) (.n 0)) (.n 1)) (.v 1) rfl hu
  exact ⟨fun Q hq=>in_list_reads (.list ho hc hdd x) rd s1 hd room (by rw [h1]; exact hq s.toks),fun Q hq=>notIn_list_reads (.list ho hc hdd x) rd s1 hd room (by rw [h1]; exact hq s.toks)⟩
 cases e with
 | @int i _ ns w=>obtain ⟨t,rfl⟩:=ra.int_inv; exact go w (kl i ns).2 (.int i t) rfl rfl (kl i ns).1
 | sign c cs=>
  obtain ⟨t,rfl,_⟩:=ra.str_inv
  obtain ⟨u,rfl,_⟩:=rb.str_inv
  have q:=StrLaws.found_one ⟨cs.toArray⟩ c
  exact ⟨fun Q hq=>P.in_str (by rw [show (⟨[c].toArray⟩:Str)=⟨#[c]⟩ from rfl,q]; exact hq s.toks),fun Q hq=>P.notIn_str (by rw [show (⟨[c].toArray⟩:Str)=⟨#[c]⟩ from rfl,q]; exact hq s.toks)⟩
 | @txt t _ ss w=>
  have:=(dW.1 ra 1 rfl).2.1
  obtain ⟨u,rfl,_⟩:=ra.str_inv
  exact go w (kj t ss).2 (.str _ u) this rfl (kj t ss).1
theorem dX {op:CmpOp} {va vb:V} {r:Bool} {ma mb:Value} (I:Inv C γ ρ H s) (hu:A.units+65 < cLine) (e:Cmp H op va vb r) (ra:Rel s.heap ρ (Nl γ ρ H) va ma) (rb:Rel s.heap ρ (Nl γ ρ H) vb mb):
  wpAny C.M A (compareOp op ma mb) (mV s fun mv=>mv=.bool r) E s:=by
 cases e with
 | lt a b=>obtain ⟨t,rfl⟩:=ra.int_inv; obtain ⟨u,rfl⟩:=rb.int_inv; exact P.lt_int ⟨rfl,_,rfl⟩
 | le a b=>obtain ⟨t,rfl⟩:=ra.int_inv; obtain ⟨u,rfl⟩:=rb.int_inv; exact P.le_int ⟨rfl,_,rfl⟩
 | gt a b=>obtain ⟨t,rfl⟩:=ra.int_inv; obtain ⟨u,rfl⟩:=rb.int_inv; exact P.gt_int ⟨rfl,_,rfl⟩
 | ge a b=>obtain ⟨t,rfl⟩:=ra.int_inv; obtain ⟨u,rfl⟩:=rb.int_inv; exact P.ge_int ⟨rfl,_,rfl⟩
 | geS a b=>
  obtain ⟨t,rfl,_⟩:=ra.str_inv; obtain ⟨u,rfl,_⟩:=rb.str_inv
  refine P.ge_str ⟨?_,_,rfl⟩
  show Value.bool (!decide (a < b))=_
  rw [show (!decide (a < b))=decide (b≤a) by rw [Bool.eq_iff_iff]; simp]
 | eq d1 d2 p1 p2=>
  obtain ⟨⟨as,xa⟩,sa⟩:=dg I ra d1 p1
  obtain ⟨⟨bs,xb⟩,sb⟩:=dg I rb d2 p2
  exact eq_dataH xa xb sa sb (Nat.lt_of_succ_lt hu) ⟨rfl,_,rfl⟩
 | ne d1 d2 p1 p2=>
  obtain ⟨⟨as,xa⟩,sa⟩:=dg I ra d1 p1
  obtain ⟨⟨bs,xb⟩,sb⟩:=dg I rb d2 p2
  exact ne_dataH xa xb sa sb (Nat.lt_of_succ_lt hu) ⟨rfl,_,rfl⟩
 | is h=>
  obtain rfl:mb=.none:=by cases h<;>exact rb.none_inv
  cases h with
  | nn=>rw [ra.none_inv]; exact is_none_none ⟨rfl,_,rfl⟩
  | xn h=>exact is_none_ne (ra.not_none h) ⟨rfl,_,rfl⟩
 | isNot h=>
  obtain rfl:mb=.none:=by cases h<;>exact rb.none_inv
  cases h with
  | nn=>rw [ra.none_inv]; exact isnot_none_none ⟨rfl,_,rfl⟩
  | xn h=>exact isnot_none_ne (ra.not_none h) ⟨rfl,_,rfl⟩
 | inn h=>exact (qI I hu h ra rb).1 _ fun tk=>⟨rfl,tk,rfl⟩
 | nin h=>exact (qI I hu h ra rb).2 _ fun tk=>⟨rfl,tk,rfl⟩
end
theorem fL (n:Nat) (i:Int):min (cut n i) n=clipAt n i:=by
 have h:=clipAt_cast n i
 unfold cut
 split at h<;>rename_i h1
 ·rw [if_pos h1]; lia
 ·rw [if_neg h1]; lia
theorem gZ {α:Type} (xs:List α) (lo hi:Nat):slice xs lo hi=(xs.drop (min lo xs.length)).take (min hi xs.length - min lo xs.length):=by
 unfold slice
 rw [List.drop_take]
 rcases Nat.le_total lo xs.length with h | h
 ·rw [Nat.min_eq_left h]
  rcases Nat.le_total hi xs.length with h' | h'
  ·rw [Nat.min_eq_left h']
  ·rw [Nat.min_eq_right h',List.take_of_length_le (by simp; exact li [_,_,lo,hi] [([1],[4]),([4],[2,3])] [1] [2,3] rfl h' (l_g _ _)),List.take_of_length_le (by simp)]
 ·rw [Nat.min_eq_right h,List.drop_eq_nil_of_le h,List.drop_eq_nil_of_le (Nat.le_refl _)]
  simp
theorem hF (ms:List Value) (lo hi:Option Int):slicePick ms.toArray lo hi none=(slice ms (iM ms.length lo) (iU ms.length hi)).toArray:=by
 rw [slicePick_plain,gZ]
 simp only [List.size_toArray]
 congr 1
 have e1:lo.elim 0 (clipAt ms.length)=min (iM ms.length lo) ms.length:=by
  cases lo with
  | none=>simp [iM]
  | some i=>exact (fL _ _).symm
 have e2:hi.elim ms.length (clipAt ms.length)=min (iU ms.length hi) ms.length:=by
  cases hi with
  | none=>simp [iU]
  | some i=>exact (fL _ _).symm
 rw [e1,e2]
theorem kM (cs:List Nat) (l u:Option (Int×Tok)):
  slicePicked ⟨cs.toArray⟩ l u none=(List.range (min (iU cs.length (u.map (·.1))) cs.length - min (iM cs.length (l.map (·.1))) cs.length)).map (min (iM cs.length (l.map (·.1))) cs.length+ ·):=by
 rw [← sliceRange_one]
 have hlen:=bw cs
 have c: ∀ i:Int,max 0 (min (if i < 0 then i+(cs.length:Int) else i) cs.length)=((min (cut cs.length i) cs.length:Nat):Int):=fun i=>by rw [fL,clipAt_cast]
 unfold slicePicked
 rw [hlen]
 show strSliceIndices _ _ 1 _=_
 unfold strSliceIndices
 cases l<;>cases u<;>simp only [show ((1:Int) > 0)=True from by simp,if_true,Option.map_none,Option.map_some,c,iM,iU,Option.elim_none,Option.elim_some]<;>congr 1<;>simp
theorem jG (cs:List Nat) (l u:Option (Int×Tok)):(slicePicked ⟨cs.toArray⟩ l u none).filterMap (cs.toArray[·]?)=slice cs (iM cs.length (l.map (·.1))) (iU cs.length (u.map (·.1))):=by
 rw [gZ,kM,pick_run]
section
variable {C:Cx} {A:Around} {E:Value→Shared→Prop} {s:Shared} {ρ:List Addr} {H:List HO}
theorem dx {α:Type} (xs:List α) (lo hi:Nat):(slice xs lo hi).length≤xs.length:=by
 unfold slice; simp; exact li [_,_,lo] [([1],[2])] [1] [2,3] rfl (Nat.min_le_right _ _)
theorem qP {α:Type} {xs:List α} {lo hi:Nat} {x:α} (h:x∈slice xs lo hi):x∈xs:=List.mem_of_mem_take (List.mem_of_mem_drop h)
theorem aI.slice {h:Heap} {ρ:List Addr} {N:Addr→Prop} {vs:List V} {ms:List Value} (r:aI h ρ N vs ms) (lo hi:Nat):aI h ρ N (Mine.slice vs lo hi) (Mine.slice ms lo hi):=(r.take hi).drop lo
noncomputable def lD (v:Option V) (m:Value) (i:Option Int):Prop:=(v=none∧m=.none∧i=none)∨∃ k t,v=some (.int k)∧m=.int k t∧i=some k
theorem iT {value slice:Expr} {cs:List Nat} {t:Tok} {vl vu:Option V} {ml mu:Value} {lo hi:Option Int} (hlen:cs.length≤ay) (ha: ∀ c∈cs,c < 128) (pl:lD vl ml lo) (pu:lD vu mu hi):
  wpAny C.M A (subscriptTail value slice (.str ⟨cs.toArray⟩ t) (.ref s.heap.objs.size)) (fun mv s'=>Rel s.heap ρ (Nl γ ρ H) (.str (Mine.slice cs (iM cs.length lo) (iU cs.length hi))) mv∧bP s s') E
   { s with heap:=s.heap.push { cls:=.type "slice",data:=.fields #[ml,mu,.none]}}:=by
 obtain ⟨l,e1,e2⟩: ∃ l:Option (Int×Tok),ml=partValue l∧lo=l.map (·.1):=by
  rcases pl with ⟨_,rfl,rfl⟩ | ⟨k,t,_,rfl,rfl⟩
  ·exact ⟨none,rfl,rfl⟩
  ·exact ⟨some (k,t),rfl,rfl⟩
 obtain ⟨u,f1,f2⟩: ∃ l:Option (Int×Tok),mu=partValue l∧hi=l.map (·.1):=by
  rcases pu with ⟨_,rfl,rfl⟩ | ⟨k,t,_,rfl,rfl⟩
  ·exact ⟨none,rfl,rfl⟩
  ·exact ⟨some (k,t),rfl,rfl⟩
 subst e1 e2 f1 f2
 refine fC (typeIs_str _ _ _) F.slot_str_getitem.lookup (wpAny_getItem_str_slice (l:=l) (u:=u) (st:=none) ⟨_,Heap.get?_push_size _ rfl,rfl,rfl⟩ rfl ?_)
 have key:=jG cs l u
 unfold sliceMade
 split
 ·rename_i hc
  refine ⟨?_,bP.push s _ s.toks⟩
  have hx:=bw cs
  simp only [Bool.and_eq_true,beq_iff_eq] at hc
  have:Mine.slice cs (iM cs.length (l.map (·.1))) (iU cs.length (u.map (·.1)))=cs:=by
   rw [← key]
   unfold Mine.slice at key
   have h2:=hc.2
   rw [hx] at h2
   have h3:(slicePicked ⟨cs.toArray⟩ l u none).filterMap (cs.toArray[·]?)=cs:=by
    rw [key]
    have hl:((List.take (iU cs.length (u.map (·.1))) cs).drop (iM cs.length (l.map (·.1)))).length=cs.length:=by
     have k1:=kM cs l u
     rw [k1,List.length_map,List.length_range] at h2
     have k2:=gZ cs (iM cs.length (l.map (·.1))) (iU cs.length (u.map (·.1)))
     unfold Mine.slice at k2
     rw [k2,List.length_take,List.length_drop]
     exact l_a (li [_,_,_] [([3],[2]),([1],[3])] [1] [2] rfl (Nat.sub_le _ _) (Nat.min_le_right _ _)) (li [_,_,_] [([1],[3]),([3],[2])] [1] [2] rfl (l_s h2) (l_m (li [_,_,_,_,_] [([3],[2,4]),([5],[3]),([1,4],[5])] [1] [2] rfl (l_g _ _) (Nat.min_le_right _ _) (l_d (li [_,_,_,_] [([3],[4]),([4],[2]),([1],[3])] [1] [2] rfl (l_s h2) (Nat.sub_le _ _) (Nat.min_le_right _ _))))))
    have hs:((List.take (iU cs.length (u.map (·.1))) cs).drop (iM cs.length (l.map (·.1)))).Sublist cs:=(List.drop_sublist _ _).trans (List.take_sublist _ _)
    exact hs.eq_of_length hl
   exact h3
  rw [this]
  exact .str _ hlen ha
 ·refine ⟨?_,?_,?_⟩
  ·show (((slicePicked ⟨cs.toArray⟩ l u none).filterMap (cs.toArray[·]?)).toArray).size≤sizeLine
   rw [key,bi,List.size_toArray]
   exact Nat.le_trans (dx _ _ _) hlen
  ·show Rel _ _ _ _ (Value.str ⟨((slicePicked ⟨cs.toArray⟩ l u none).filterMap (cs.toArray[·]?)).toArray⟩ _)
   rw [key]
   exact .str _ (Nat.le_trans (dx _ _ _) hlen) fun c hc=>ha c (qP hc)
  ·exact bP.push s _ _
end
section
variable {C:Cx} {A:Around} {E:Value→Shared→Prop} {s:Shared} {ρ:List Addr} {N:Addr→Prop} {H:List HO}
theorem hJ {value slice:Expr} {a:Addr} {xs:List V} {ms:List Value} {vl vu:Option V} {ml mu:Value} {lo hi:Option Int} (hl:s.heap.PlainList a ms.toArray) (r:aI s.heap ρ N xs ms) (hlen:xs.length≤ay)
  (pl:lD vl ml lo) (pu:lD vu mu hi):
  wpAny C.M A (subscriptTail value slice (.ref a) (.ref s.heap.objs.size)) (cw s ρ N (Mine.slice xs (iM xs.length lo) (iU xs.length hi))) E
   { s with heap:=s.heap.push { cls:=.type "slice",data:=.fields #[ml,mu,.none]}}:=by
 have il:IsPart ml lo:=by
  rcases pl with ⟨_,rfl,rfl⟩ | ⟨k,t,_,rfl,rfl⟩
  ·exact .none
  ·exact .int k t
 have iu:IsPart mu hi:=by
  rcases pu with ⟨_,rfl,rfl⟩ | ⟨k,t,_,rfl,rfl⟩
  ·exact .none
  ·exact .int k t
 refine fC (T:= "list") (hl.isList.push _).typeIs slot_list_getitem.lookup (wpAny_getItem_list_slice (hl.isList.push _) (Heap.IsSliceOf.new ..) il iu .none (by simp) ?_ (by rw [bi,List.size_toArray,← r.length]; exact hlen))
 have g1:=bP.push s { cls:=.type "slice",data:=.fields #[ml,mu,.none]} s.toks
 have g2:=bP.push { s with heap:=s.heap.push { cls:=.type "slice",data:=.fields #[ml,mu,.none]}} { cls:=.type "list",data:=.seq (slicePick ms.toArray lo hi none)} s.toks
 have hf:s.heap.get? (s.heap.push { cls:=.type "slice",data:=.fields #[ml,mu,.none]}).objs.size=none:=by
  rw [Heap.size_push]
  cases e:s.heap.get? (s.heap.objs.size+1) with
  | none=>rfl
  | some o=>exact absurd (Heap.lt_size e) (Nat.not_lt.mpr (Nat.le_succ _))
 refine ⟨_,Mine.slice ms (iM ms.length lo) (iU ms.length hi),rfl,hf,g1.trans g2,⟨0,?_⟩,?_,?_⟩
 ·rw [hF]; exact Heap.get?_push_size _ rfl
 ·rw [r.length]; exact r.slice _ _
 ·exact Nat.le_trans (dx _ _ _) hlen
end
end
noncomputable section
open PySem PyProof.Rows
variable {γ:Gh}
noncomputable def kd (sc:Scope) (x:String):Option NameKind:=sc.names.lookup (x:Str)
noncomputable def wp (sc:Scope) (x:String):Bool:=kd sc x == some .local || kd sc x == some .cell || kd sc x == some .free
noncomputable def ce (sc:Scope) (x:String):Bool:=kd sc x == some .globalImplicit && !((x:Str) == ("__debug__" :Str))
noncomputable def bE:Expr→Bool
 | .Set ..=>true
 | _=>false
noncomputable def bq (e:Expr):Bool:=
 match e with
 | .Starred _ _=>false
 | .Call (.Name _ _) es _ _=>!es.isEmpty
 | _=>true
structure At (C:Cx) (γ:Gh) (env:Env) (ρ₀:List Addr) (st₀:St) (s₀:Shared) (ρ:List Addr) (st:St) (s:Shared):Prop where
 inv:Inv C γ ρ st.H s
 fra:Fra γ env st ρ s
 stp:Stp ρ₀ st₀.H s₀ ρ st.H s
 same:st.s=st₀.s
theorem At.start {C:Cx} {env:Env} {ρ:List Addr} {st:St} {s:Shared} (I:Inv C γ ρ st.H s) (F:Fra γ env st ρ s):At C γ env ρ st s ρ st s:=⟨I,F,.refl ..,rfl⟩
section
variable {C:Cx} {env:Env} {ρ₀:List Addr} {st₀:St} {s₀:Shared} {ρ:List Addr} {st:St} {s s':Shared} {Q:V→St→Prop} {mv:Value}
theorem At.post {v:V} (a:At C γ env ρ₀ st₀ s₀ ρ st s) (h:Q v st) (r:Rel s.heap ρ (Nl γ ρ st.H) v mv):ek C γ ρ₀ st₀ s₀ Q mv s:=⟨v,st,ρ,h,a.same,r,a.inv,a.stp⟩
theorem At.thenPost (a:At C γ env ρ₀ st₀ s₀ ρ st s) (p:ek C γ ρ st s Q mv s'):ek C γ ρ₀ st₀ s₀ Q mv s':=p.step a.stp a.same
theorem At.grew (a:At C γ env ρ₀ st₀ s₀ ρ st s) (g:bP s s'):At C γ env ρ₀ st₀ s₀ ρ st s':=⟨g.inv a.inv,a.fra.step g.stp rfl,a.stp.trans g.stp,a.same⟩
theorem At.sameP {v:V} (a:At C γ env ρ₀ st₀ s₀ ρ st s) (h:Q v st) (p:mV s (fun mv=>Rel s.heap ρ (Nl γ ρ st.H) v mv) mv s'):ek C γ ρ₀ st₀ s₀ Q mv s':=a.thenPost (p.post a.inv h)
theorem At.newP {vs:List V} (a:At C γ env ρ₀ st₀ s₀ ρ st s) (h:kO vs st Q) (p:cw s ρ (Nl γ ρ st.H) vs mv s'):ek C γ ρ₀ st₀ s₀ Q mv s':=a.thenPost (p.post a.inv h)
theorem At.grewP {v:V} (a:At C γ env ρ₀ st₀ s₀ ρ st s) (h:Q v st) (p:Rel s'.heap ρ (Nl γ ρ st.H) v mv∧bP s s'):ek C γ ρ₀ st₀ s₀ Q mv s':=(a.grew p.2).post h p.1
end
section
variable (C:Cx) (k:Nat) (sc:Scope)
noncomputable def SE (e:E) (pe:Expr):Prop:=∀ (env:Env) (A:Around) (s:Shared) (γ:Gh) (ρ:List Addr) (st:St) (Q:V→St→Prop) (X:String→St→Prop),env.scope=sc→bO (2*k+1) A γ→Inv C γ ρ st.H s→Fra γ env st ρ s→
 wE (Calls C k) C.glo e st Q X→wpAny C.M A (eval pe env) (ek C γ ρ st s Q) (bA C γ ρ st s X) s
noncomputable def wR (γ:Gh) (ρ:List Addr) (st:St) (s:Shared) (Q:Bool→St→Prop) (b:Bool) (s':Shared):Prop:=∃ st' ρ',Q b st'∧st'.s=st.s∧Inv C γ ρ' st'.H s'∧Stp ρ st.H s ρ' st'.H s'
noncomputable def ST (e:E) (pe:Expr):Prop:=∀ (env:Env) (A:Around) (s:Shared) (γ:Gh) (ρ:List Addr) (st:St) (Q:Bool→St→Prop) (X:String→St→Prop),env.scope=sc→bO (2*k+1) A γ→Inv C γ ρ st.H s→Fra γ env st ρ s→
 wT (Calls C k) C.glo e st Q X→wpAny C.M A (isTrue pe env (eval pe env)) (wR C γ ρ st s Q) (bA C γ ρ st s X) s
noncomputable def BR (γ:Gh) (n:Nat) (ρ:List Addr) (st:St) (s:Shared) (Q:List V→St→Prop) (ms:List Value) (s':Shared):Prop:=
 ms.length=n∧∃ vs st' ρ',Q vs st'∧st'.s=st.s∧aI s'.heap ρ' (Nl γ ρ' st'.H) vs ms∧Inv C γ ρ' st'.H s'∧Stp ρ st.H s ρ' st'.H s'
noncomputable def SEs (es:Es) (pes:List Expr):Prop:=(∀ pe∈pes,bq pe=true)∧∀ (pos:Pos) (env:Env) (A:Around) (s:Shared) (γ:Gh) (ρ:List Addr) (st:St) (Q:List V→St→Prop) (X:String→St→Prop),env.scope=sc→bO (2*k+1) A γ→Inv C γ ρ st.H s→Fra γ env st ρ s→
 wEs (Calls C k) C.glo es st Q X→wpAny C.M A (spliced (backTo pos (starEach pes env))) (BR C γ pes.length ρ st s Q) (bA C γ ρ st s X) s
end
section
variable {C:Cx} {k:Nat} {sc:Scope} {env:Env} {A:Around} {ρ₀:List Addr} {st₀:St} {s₀:Shared} {ρ:List Addr} {st:St} {s:Shared} {X:String→St→Prop}
theorem SE.at {e:E} {pe:Expr} {W:V→St→Prop} {K:Value→Shared→Prop} (ih:SE C k sc e pe) (hs:env.scope=sc) (hr:bO (2*k+1) A γ) (a:At C γ env ρ₀ st₀ s₀ ρ st s) (w:wE (Calls C k) C.glo e st W X)
  (h: ∀ mv s' v st' ρ',W v st'→Rel s'.heap ρ' (Nl γ ρ' st'.H) v mv→At C γ env ρ₀ st₀ s₀ ρ' st' s'→Stp ρ st.H s ρ' st'.H s'→K mv s'):wpAny C.M A (eval pe env) K (bA C γ ρ₀ st₀ s₀ X) s:=
 wpAny_mono (ih env A s γ ρ st W X hs hr a.inv a.fra w) (fun mv s' p=>by
  obtain ⟨v,st',ρ',h1,h2,h3,h4,h5⟩:=p
  exact h mv s' v st' ρ' h1 h3 ⟨h4,a.fra.step h5 h2,a.stp.trans h5,h2.trans a.same⟩ h5) fun _ _ p=>p.step a.inv a.stp a.same
theorem ST.at {e:E} {pe:Expr} {W:Bool→St→Prop} {K:Bool→Shared→Prop} (ih:ST C k sc e pe) (hs:env.scope=sc) (hr:bO (2*k+1) A γ) (a:At C γ env ρ₀ st₀ s₀ ρ st s) (w:wT (Calls C k) C.glo e st W X)
  (h: ∀ b s' st' ρ',W b st'→At C γ env ρ₀ st₀ s₀ ρ' st' s'→Stp ρ st.H s ρ' st'.H s'→K b s'):wpAny C.M A (isTrue pe env (eval pe env)) K (bA C γ ρ₀ st₀ s₀ X) s:=
 wpAny_mono (ih env A s γ ρ st W X hs hr a.inv a.fra w) (fun mv s' p=>by
  obtain ⟨st',ρ',h1,h2,h4,h5⟩:=p
  exact h mv s' st' ρ' h1 ⟨h4,a.fra.step h5 h2,a.stp.trans h5,h2.trans a.same⟩ h5) fun _ _ p=>p.step a.inv a.stp a.same
theorem SEs.at {es:Es} {pes:List Expr} {pos:Pos} {W:List V→St→Prop} {K:List Value→Shared→Prop} (ih:SEs C k sc es pes) (hs:env.scope=sc) (hr:bO (2*k+1) A γ) (a:At C γ env ρ₀ st₀ s₀ ρ st s) (w:wEs (Calls C k) C.glo es st W X)
  (h: ∀ ms s' vs st' ρ',ms.length=pes.length→W vs st'→aI s'.heap ρ' (Nl γ ρ' st'.H) vs ms→At C γ env ρ₀ st₀ s₀ ρ' st' s'→Stp ρ st.H s ρ' st'.H s'→K ms s'):wpAny C.M A (spliced (backTo pos (starEach pes env))) K (bA C γ ρ₀ st₀ s₀ X) s:=
 wpAny_mono (ih.2 pos env A s γ ρ st W X hs hr a.inv a.fra w) (fun ms s' p=>by
  obtain ⟨hn,v,st',ρ',h1,h2,h3,h4,h5⟩:=p
  exact h ms s' v st' ρ' hn h1 h3 ⟨h4,a.fra.step h5 h2,a.stp.trans h5,h2.trans a.same⟩ h5) fun _ _ p=>p.step a.inv a.stp a.same
theorem bA.mono {Y:String→St→Prop} {ev:Value} {s':Shared} (h: ∀ c st,X c st→Y c st) (p:bA C γ ρ st s X ev s'):bA C γ ρ st s Y ev s':=let ⟨c,st',ρ',h1,h2⟩:=p; ⟨c,st',ρ',h _ _ h1,h2⟩
theorem eV {l:List Addr} {i j:Nat} {a:Addr} (h:l.Nodup) (hi:l[i]?= some a) (hj:l[j]?= some a):i=j:=by
 obtain ⟨hi',e1⟩:=List.getElem?_eq_some_iff.mp hi
 obtain ⟨hj',e2⟩:=List.getElem?_eq_some_iff.mp hj
 exact (List.getElem_inj h).mp (e1.trans e2.symm)
theorem bk {H:List HO} {i j:Nat} {o x:HO} (h:(H.set i o)[j]?= some x):(i=j∧x=o∧i < H.length)∨(i≠j∧H[j]?= some x):=by
 rw [List.getElem?_set] at h
 by_cases e:i=j
 ·rw [if_pos e] at h
  by_cases l:i < H.length
  ·rw [if_pos l] at h; exact .inl ⟨e,(Option.some.inj h).symm,l⟩
  ·rw [if_neg l] at h; cases h
 ·rw [if_neg e] at h; exact .inr ⟨e,h⟩
theorem Inv.live_nh {H:List HO} {a:Addr} (I:Inv C γ ρ H s) (h:Lv ρ H a): ¬ γ.h a:=fun q=>by
 obtain ⟨i,o,h1,h2,h3⟩:=h
 rw [I.bor i a o h1 (I.apart a (List.mem_of_getElem? h1) q) h2] at h3; cases h3
theorem rt {i:Nat} {vs:List V} {m:Value} {Q:V→St→Prop} (a:At C γ env ρ₀ st₀ s₀ ρ st s) (hH:st.H[i]?= some (.list vs)) (r:Rel s.heap ρ (Nl γ ρ st.H) (.loc i) m) (w:Q (.lst vs) ⟨st.s,st.H.set i .dead⟩):ek C γ ρ₀ st₀ s₀ Q m s:=by
 obtain ⟨x,rfl,hx⟩:=r.loc_inv
 obtain ⟨ms,hl,hr',hlen⟩:=a.inv.obj i _ _ hx hH
 have lv: ∀ b,Lv ρ (st.H.set i .dead) b→Lv ρ st.H b∧b≠x:=fun b ⟨j,o,h1,h2,h3⟩=>by
  rcases bk h2 with ⟨_,rfl,_⟩ | ⟨ne,h2⟩
  ·cases h3
  ·exact ⟨⟨j,o,h1,h2,h3⟩,fun e=>ne (eV a.inv.nodup hx (e▸h1))⟩
 have kd:cG s.heap ρ (Lv ρ st.H) s.heap ρ (Lv ρ (st.H.set i .dead)):=⟨fun _ o e _=>⟨o,e,.refl o⟩,fun b q=>.inl (lv b q).1,fun _ _ e=>e⟩
 have nl: ¬ Nl γ ρ (st.H.set i .dead) x:=fun q=>q.elim (fun q=>(lv x q).2 rfl) fun q=>a.inv.live_nh ⟨i,_,hx,hH,rfl⟩ q
 refine ⟨_,_,ρ,w,a.same,.lst hl nl hlen (hr'.kept kd.gh),⟨a.inv.base,by rw [List.length_set]; exact a.inv.len,a.inv.nodup,a.inv.fresh,a.inv.there,fun j b o h1 h2=>?_,a.inv.apart,?_,a.inv.held,a.inv.off,a.inv.frm,a.inv.hdl' kd,(fun z=>a.inv.hq (dZ hH (fun c=>HO.noConfusion) z)),a.inv.gens,a.inv.os⟩,a.stp.trans ⟨kd⟩⟩
 ·rcases bk h2 with ⟨_,rfl,_⟩ | ⟨_,h2⟩
  ·trivial
  ·exact (a.inv.obj j b o h1 h2).kept kd.gh fun _ q=>q
 ·intro j b o h1 q h2
  rcases bk h2 with ⟨_,rfl,_⟩ | ⟨_,h2⟩
  ·rfl
  ·exact a.inv.bor j b o h1 q h2
theorem sP {pe:Expr}:SE C k sc .stuck pe:=fun _ _ _ _ _ _ _ _ _ _ _ _ w=>False.elim w
theorem xT {x:String} {p:Pos} (hk:wp sc x=true) (hd:(!((x:Str) == ("__debug__" :Str)) && !((x:Str) == ("__classdict__" :Str)) && !((x:Str) == (".0" :Str)))=true):SE C k sc (.var x) (.Name (x:Str) p):=by
 rintro env A s γ ρ st Q X rfl hr I F ⟨v,hv,w⟩
 simp only [Bool.and_eq_true,beq_iff_eq,Bool.not_eq_true',wp,Bool.or_eq_true,kd] at hk hd
 have hz:(x:Str)≠(".0" :Str):=fun e=>by rw [e] at hd; cases hd.2
 refine wpAny_Name ?_ hd.1.1
 have fin: ∀ {mv:Value},Rel s.heap ρ (Nl γ ρ st.H) v mv→ek C γ ρ st s Q mv s:=fun r=>by
  rcases w with w | ⟨i,vs,rfl,hH,w⟩
  ·exact (At.start I F).post w r
  ·exact rt (At.start I F) hH r w
 rcases hk with (hk | hk) | hk
 ·obtain ⟨m,hn,hl⟩:=F.ns
  obtain ⟨mv,e1,e2⟩:=hl x v hk hz hv
  exact wpAny_loadName_local F.kind hk hn e1 (fin e2)
 ·obtain ⟨c,ov,h1,h2,h3,h4⟩:=F.cell x (.inl hk)
  obtain ⟨mv,rfl,e2⟩:=h4 x rfl v hv
  exact wpAny_loadName_cell F.kind hk h1 h3 (fin e2)
 ·obtain ⟨c,ov,h1,h2,h3,h4⟩:=F.cell x (.inr hk)
  obtain ⟨mv,rfl,e2⟩:=h4 x rfl v hv
  exact wpAny_loadName_free F.kind hk h1 h3 (fin e2) hd.1.2
theorem yd {x:String} {p:Pos} (hk:ce sc x=true):SE C k sc (.glo x) (.Name (x:Str) p):=by
 rintro env A s γ ρ st Q X rfl hr I F ⟨v,hv,w⟩
 simp only [Bool.and_eq_true,beq_iff_eq,Bool.not_eq_true',ce,kd] at hk
 obtain ⟨i,t,rfl,hg⟩:=C.hglo x v hv
 exact Calls.Name_function_global F.kind hk.1 (Calls.loadGlobal_global (mg:=C.mg) (by rw [F.glob]; exact C.g.keeps I.base) hg ((At.start I F).post w (.int _ _))) hk.2
theorem vp {p:Pos} {u:Nat}:SE C k sc .none (.Constant .none u p):=fun _ _ _ _ _ _ _ _ _ _ I F w=>Constant_none ((At.start I F).post w .none)
theorem vA {b:Bool} {p:Pos} {u:Nat}:SE C k sc (.bool b) (.Constant (.bool b) u p):=fun _ _ _ _ _ _ _ _ _ _ I F w=>Constant_bool ((At.start I F).post w (.bool _))
theorem yb {i:Int} {p:Pos} {u:Nat}:SE C k sc (.int i) (.Constant (.int i) u p):=fun _ _ s _ _ _ _ _ _ _ I F w=>wpAny_Constant_int ((At.start I F).grew (bP.toks s _) |>.post w (.int _ _))
theorem xV {x:Str} {p:Pos} {u:Nat} (h:(decide (x.cps.toList.length≤1000) && x.cps.toList.all (· < 128))=true):SE C k sc (.str x.cps.toList) (.Constant (.str x) u p):=fun env A s γ ρ st Q X _ _ I F w=>by
 obtain ⟨h1,h2⟩:=Bool.and_eq_true_iff.mp h
 refine Calls.Constant_str ((At.start I F).grew (bP.toks s _) |>.post w ?_)
 exact .str (cs:=x.cps.toList) _ (Nat.le_trans (of_decide_eq_true h1) (by decide)) fun c hc=>of_decide_eq_true (List.all_eq_true.mp h2 c hc)
theorem yg {op:Operator} {a b:E} {pa pb:Expr} {p:Pos} (ha:SE C k sc a pa) (hb:SE C k sc b pb):SE C k sc (.bin op a b) (.BinOp pa op pb p):=fun env A s γ ρ st Q X hs hr I F w=>
 wpAny_BinOp (ha.at hs hr (At.start I F) w fun ma s₁ va st₁ ρ₁ w₁ r₁ a₁ S₁=>hb.at hs hr a₁ w₁ fun mb s₂ vb st₂ ρ₂ w₂ r₂ a₂ S₂=>by
  rcases w₂ with ⟨v,e,hQ⟩ | ⟨xs,ys,rfl,e1,e2,hl,hQ⟩
  ·exact wpAny_mono (te e (r₁.kept S₂.kept) r₂) (fun _ _ p=>a₂.sameP hQ p) fun _ _ x=>x
  ·obtain ⟨p,ms,rfl,hp,rp,lp⟩:=a₂.inv.view (r₁.kept S₂.kept) e1
   obtain ⟨q,ns,rfl,hq,rq,lq⟩:=a₂.inv.view r₂ e2
   exact wpAny_mono (tc hp hq rp rq hl) (fun _ _ p=>a₂.newP hQ p) fun _ _ x=>x)
theorem xY {a:E} {pa:Expr} {p:Pos} (ha:SE C k sc a pa):SE C k sc (.neg a) (.UnaryOp .USub pa p):=fun env A s γ ρ st Q X hs hr I F w=>
 UnaryOp_ (ha.at hs hr (At.start I F) w fun ma s₁ va st₁ ρ₁ w₁ r₁ a₁ S₁=>by
  obtain ⟨i,rfl,w₁⟩:=w₁
  obtain ⟨t,rfl⟩:=r₁.int_inv
  exact P.neg_int ((a₁.grew (bP.toks s₁ _)).post w₁ (.int _ _)))
theorem xX {a:E} {pa:Expr} {p:Pos} (ha:SE C k sc a pa):SE C k sc (.not a) (.UnaryOp .Not pa p):=fun env A s γ ρ st Q X hs hr I F w=>
 UnaryOp_ (ha.at hs hr (At.start I F) w fun ma s₁ va st₁ ρ₁ w₁ r₁ a₁ S₁=>by
  obtain ⟨b,rfl,w₁⟩:=w₁
  obtain rfl:=r₁.bool_inv
  exact not_of (wpAny_truthy_bool (a₁.post w₁ (.bool _))))
theorem yc {a i:E} {pa pi:Expr} {p:Pos} (ha:SE C k sc a pa) (hi:SE C k sc i pi):SE C k sc (.idx a i) (.Subscript pa pi p):=fun env A s γ ρ st Q X hs hr I F w=>
 Subscript_ (ha.at hs hr (At.start I F) w fun ma s₁ va st₁ ρ₁ w₁ r₁ a₁ S₁=>hi.at hs hr a₁ w₁ fun mi s₂ vi st₂ ρ₂ w₂ r₂ a₂ S₂=>by
  obtain ⟨v,e,hQ⟩:=w₂
  exact wpAny_mono (tb a₂.inv e (r₁.kept S₂.kept) r₂) (fun _ _ p=>a₂.sameP hQ p) fun _ _ x=>x)
theorem dG {op:CmpOp} {e:Expr} (h:bE e=false):behindInMarks op e=false:=by
 cases e<;>first | rfl | cases h
theorem bO.cmp {k:Nat} {A:Around} (r:bO (2*k+1) A γ):A.units+65 < cLine:=by have:=r.units; show _ < 9900; exact lin [_,k] [(1,.a (.a (.v 0) (.m 4 (.a (.m 2 (.v 1)) (.n 1)))) (.n 1),.n 9000)] 1 (.a (.a (.v 0) (.n 65)) (.n 1)) (.n 9900) rfl this
theorem ji {o1 o2:CmpOp} {b c:Expr} (h:bE c=false):lastMarks [o1,o2] [b,c]=false:=dG h
theorem ye {op:CmpOp} {a b:E} {pa pb:Expr} {p:Pos} (h0:bE pb=false) (ha:SE C k sc a pa) (hb:SE C k sc b pb):SE C k sc (.cmp op a b) (.Compare pa [op] [pb] p):=fun env A s γ ρ st Q X hs hr I F w=>
 wpAny_Compare1 (ha.at hs hr (At.start I F) w fun ma s₁ va st₁ ρ₁ w₁ r₁ a₁ S₁=>hb.at hs hr a₁ w₁ fun mb s₂ vb st₂ ρ₂ w₂ r₂ a₂ S₂=>by
  obtain ⟨v,e,hQ⟩:=w₂
  exact wpAny_mono (dX a₂.inv hr.cmp e (r₁.kept S₂.kept) r₂) (fun _ _ p=>by obtain ⟨rfl,tk,rfl⟩:=p; exact (a₂.grew (.toks _ tk)).post hQ (.bool _)) fun _ _ x=>x) (dG h0)
theorem xI {op:CmpOp} {a b:E} {pa pb:Expr} {p:Pos} (h0:bE pb=false) (ha:SE C k sc a pa) (hb:SE C k sc b pb):ST C k sc (.cmp op a b) (.Compare pa [op] [pb] p):=fun env A s γ ρ st Q X hs hr I F w=>
 wpAny_isTrue_Compare1 (ha.at hs hr (At.start I F) w fun ma s₁ va st₁ ρ₁ w₁ r₁ a₁ S₁=>hb.at hs hr a₁ w₁ fun mb s₂ vb st₂ ρ₂ w₂ r₂ a₂ S₂=>by
  obtain ⟨v,e,b,hb,hQ⟩:=w₂
  cases hb
  exact wpAny_mono (dX a₂.inv hr.cmp e (r₁.kept S₂.kept) r₂) (fun _ _ p=>by obtain ⟨rfl,tk,rfl⟩:=p; have a₂:=a₂.grew (.toks _ tk); exact wpAny_truthy_bool ⟨st₂,ρ₂,hQ,a₂.same,a₂.inv,a₂.stp⟩) fun _ _ x=>x) (dG h0)
theorem vy {op op':CmpOp} {a b c:E} {pa pb pc:Expr} {p:Pos} (h0:bE pc=false) (ha:SE C k sc a pa) (hb:SE C k sc b pb) (hc:SE C k sc c pc):SE C k sc (.cmp2 op op' a b c) (.Compare pa [op,op'] [pb,pc] p):=fun env A s γ ρ st Q X hs hr I F w=>
 Compare_chain (ha.at hs hr (At.start I F) w fun ma s₁ va st₁ ρ₁ w₁ r₁ a₁ S₁=>chain_link (hb.at hs hr a₁ w₁ fun mb s₂ vb st₂ ρ₂ w₂ r₂ a₂ S₂=>by
  obtain ⟨v,e,hQ⟩:=w₂
  refine wpAny_mono (dX a₂.inv hr.cmp e (r₁.kept S₂.kept) r₂) (fun mv s' p=>?_) fun _ _ x=>x
  obtain ⟨rfl,tk,rfl⟩:=p
  have a₂:=a₂.grew (.toks _ tk)
  refine wpAny_truthy_bool ?_
  rcases hQ with ⟨rfl,hQ⟩ | ⟨rfl,hQ⟩
  ·exact chain_last (hc.at hs hr a₂ hQ fun mc s₄ vc st₄ ρ₄ w₄ r₄ a₄ S₄=>by
    obtain ⟨v',e',hQ'⟩:=w₄
    exact wpAny_mono (dX a₄.inv hr.cmp e' (r₂.kept S₄.kept) r₄) (fun _ _ p=>by obtain ⟨rfl,tk,rfl⟩:=p; exact (a₄.grew (.toks _ tk)).post hQ' (.bool _)) fun _ _ x=>x)
  ·exact a₂.post hQ (.bool _))) (ji h0)
theorem uS {op op':CmpOp} {a b c:E} {pa pb pc:Expr} {p:Pos} (h0:bE pc=false) (ha:SE C k sc a pa) (hb:SE C k sc b pb) (hc:SE C k sc c pc):ST C k sc (.cmp2 op op' a b c) (.Compare pa [op,op'] [pb,pc] p):=fun env A s γ ρ st Q X hs hr I F w=>
 isTrue_chain (ha.at hs hr (At.start I F) w fun ma s₁ va st₁ ρ₁ w₁ r₁ a₁ S₁=>test_link (hb.at hs hr a₁ w₁ fun mb s₂ vb st₂ ρ₂ w₂ r₂ a₂ S₂=>by
  obtain ⟨v,e,hQ⟩:=w₂
  refine wpAny_mono (dX a₂.inv hr.cmp e (r₁.kept S₂.kept) r₂) (fun mv s' p=>?_) fun _ _ x=>x
  obtain ⟨rfl,tk,rfl⟩:=p
  have a₂:=a₂.grew (.toks _ tk)
  refine wpAny_truthy_bool ?_
  rcases hQ with ⟨rfl,hQ⟩ | ⟨rfl,b,hb,hQ⟩
  ·exact test_last (hc.at hs hr a₂ hQ fun mc s₄ vc st₄ ρ₄ w₄ r₄ a₄ S₄=>by
    obtain ⟨v',e',b,hb,hQ'⟩:=w₄
    cases hb
    exact wpAny_mono (dX a₄.inv hr.cmp e' (r₂.kept S₄.kept) r₄) (fun _ _ p=>by obtain ⟨rfl,tk,rfl⟩:=p; have a₄:=a₄.grew (.toks _ tk); exact wpAny_truthy_bool ⟨st₄,ρ₄,hQ',a₄.same,a₄.inv,a₄.stp⟩) fun _ _ x=>x)
  ·cases hb; exact ⟨st₂,ρ₂,hQ,a₂.same,a₂.inv,a₂.stp⟩)) (ji h0)
theorem sH {e:E} {pe:Expr} (he:SE C k sc e pe) (hp: ∀ env (whole:Sem Value),isTrue pe env whole=(do let v ← whole; standAt pe.pos; holding [v] (truthy v))):ST C k sc e pe:=fun env A s γ ρ st Q X hs hr I F w=>
 isTrue_plain (he.at hs hr (At.start I F) w fun mv s₁ v st₁ ρ₁ w₁ r₁ a₁ S₁=>by
  obtain ⟨b,rfl,w₁⟩:=w₁
  obtain rfl:=r₁.bool_inv
  exact wpAny_truthy_bool ⟨st₁,ρ₁,w₁,a₁.same,a₁.inv,a₁.stp⟩) (hp _ _)
theorem xH {a:E} {pa:Expr} {p:Pos} (ha:ST C k sc a pa):ST C k sc (.not a) (.UnaryOp .Not pa p):=fun env A s γ ρ st Q X hs hr I F w=>by
 refine isTrue_not (ha.at (W:=fun b st=>Q (!b) st) hs hr (At.start I F) ?_ fun b s₁ st₁ ρ₁ w₁ a₁ S₁=>⟨st₁,ρ₁,w₁,a₁.same,a₁.inv,a₁.stp⟩)
 have e:(fun (v:V) (st:St)=>∃ b,v=.bool b∧∃ b',V.bool (!b)=.bool b'∧Q b' st)=fun v st=>∃ b,v=.bool b∧Q (!b) st:=by
  funext v st
  exact propext ⟨fun ⟨b,h1,b',h2,h3⟩=>⟨b,h1,by cases h2; exact h3⟩,fun ⟨b,h1,h2⟩=>⟨b,h1,_,rfl,h2⟩⟩
 show wE (Calls C k) C.glo a st (fun (v:V) (st:St)=>∃ b,v=.bool b∧Q (!b) st) X
 rw [← e]; exact w
inductive lG (P:E→Expr→Prop):Es→List Expr→Prop
 | nil:lG P .nil []
 | cons {e:E} {pe:Expr} {es:Es} {pes:List Expr}:P e pe→lG P es pes→lG P (.cons e es) (pe::pes)
theorem lG.map {P P':E→Expr→Prop} (h: ∀ e pe,P e pe→P' e pe) {es:Es} {pes:List Expr} (x:lG P es pes):lG P' es pes:=by
 induction x with
 | nil=>exact .nil
 | cons a _ ih=>exact .cons (h _ _ a) ih
theorem cT {pe:Expr} {rest:List Expr} {env:Env} (h:bq pe=true):starEach (pe::rest) env=(false,eval pe env)::starEach rest env:=by
 cases pe<;>first | rfl | cases h
theorem cU {env:Env} {pos:Pos}: ∀ {pes:List Expr},(∀ pe∈pes,bq pe=true)→(backTo pos (starEach pes env)).any (·.1)=false
 | [],_=>rfl
 | pe::r,h=>by
  rw [cT (h pe List.mem_cons_self)]
  have:=cU (env:=env) (pos:=pos) (pes:=r) fun p q=>h p (List.mem_cons_of_mem _ q)
  simpa [backTo] using this
theorem xS {es:Es} {pes:List Expr} (h:lG (fun e pe=>SE C k sc e pe∧bq pe=true) es pes):SEs C k sc es pes:=by
 induction h with
 | nil=>exact ⟨fun _ h=>absurd h List.not_mem_nil,fun _ _ _ _ _ _ _ _ _ _ _ I _ w=>Calls.spliced_nil ⟨rfl,[],_,_,w,rfl,.nil,I,.refl ..⟩⟩
 | cons he _ ih=>
  refine ⟨fun p q=>(List.mem_cons.mp q).elim (fun e=>e▸he.2) (ih.1 p),fun pos env A s γ ρ st Q X hs hr I F w=>?_⟩
  refine args_cons (he.1.at hs hr (At.start I F) w fun mv s₁ v st₁ ρ₁ w₁ r₁ a₁ S₁=>ih.at hs hr a₁ w₁ fun ms s₂ vs st₂ ρ₂ hn w₂ r₂ a₂ S₂=>?_) (cT he.2)
  exact ⟨congrArg Nat.succ hn,_,st₂,ρ₂,w₂,a₂.same,.cons (r₁.kept S₂.kept) r₂,a₂.inv,a₂.stp⟩
theorem aI.len_le {h:Heap} {ρ:List Addr} {N:Addr→Prop} {vs:List V} {ms:List Value} (r:aI h ρ N vs ms) {n:Nat} (h:ms.length≤n):vs.length≤n:=by rw [r.length]; exact h
theorem xU {es:Es} {pes:List Expr} {u:Nat} {p:Pos} (hl:pes.length≤1000) (hes:SEs C k sc es pes):SE C k sc (.tup es) (.Tuple pes u p):=fun env A s γ ρ st Q X hs hr I F w=>
 Tuple_ (hes.at hs hr (At.start I F) w fun ms s₁ vs st₁ ρ₁ hn w₁ r₁ a₁ S₁=>wpAny_mono (jM a₁.inv r₁ (r₁.len_le (Nat.le_trans (Nat.le_of_eq hn) (Nat.le_trans hl (by decide))))) (fun _ _ p=>a₁.grewP w₁ p) fun _ _ x=>x)
theorem vr {es:Es} {pes:List Expr} {p:Pos} (hl:pes.length≤1000) (hes:SEs C k sc es pes):SE C k sc (.list es) (.List pes p):=fun env A s γ ρ st Q X hs hr I F w=>
 List_ (hes.at hs hr (At.start I F) w fun ms s₁ vs st₁ ρ₁ hn w₁ r₁ a₁ S₁=>wpAny_mono (kJ r₁ (r₁.len_le (Nat.le_trans (Nat.le_of_eq hn) (Nat.le_trans hl (by decide))))) (fun _ _ p=>a₁.newP w₁ p) fun _ _ x=>x)
theorem yh {pos:Pos} {es:Es} {pes:List Expr} (h:lG (SE C k sc) es pes) (hne:pes≠[]):SE C k sc (.and es) (.BoolOp .And pes pos):=fun env A s γ ρ st Q X hs hr I F w=>by
 have key: ∀ {es:Es} {pes:List Expr} {ρ':List Addr} {st':St} {s':Shared},lG (SE C k sc) es pes→pes≠[]→At C γ env ρ st s ρ' st' s'→wW (Calls C k) C.glo es st' Q X→wpAny C.M A (eval (.BoolOp .And pes pos) env) (ek C γ ρ st s Q) (bA C γ ρ st s X) s':=fun {es pes ρ' st' s'} h=>by
  induction h generalizing ρ' st' s' with
  | nil=>exact fun h=>absurd rfl h
  | cons he hr' ih=>
   intro _ a w
   cases hr' with
   | nil=>exact BoolOp_one (he.at hs hr a w fun mv s₁ v st₁ ρ₁ w₁ r₁ a₁ S₁=>by
     obtain ⟨b,rfl,w₁⟩:=w₁
     rcases w₁ with ⟨rfl,w₁⟩ | ⟨rfl,w₁⟩<;>exact a₁.post w₁ r₁)
   | cons he' hr'=>exact BoolOp_and (he.at hs hr a w fun mv s₁ v st₁ ρ₁ w₁ r₁ a₁ S₁=>by
     obtain ⟨b,rfl,w₁⟩:=w₁
     obtain rfl:=r₁.bool_inv
     refine wpAny_truthy_bool ?_
     rcases w₁ with ⟨rfl,w₁⟩ | ⟨rfl,w₁⟩
     ·exact ih (by simp) a₁ w₁
     ·exact a₁.post w₁ (.bool _))
 exact key h hne (At.start I F) w
theorem AX {pos:Pos} {es:Es} {pes:List Expr} (h:lG (SE C k sc) es pes) (hne:pes≠[]):SE C k sc (.or es) (.BoolOp .Or pes pos):=fun env A s γ ρ st Q X hs hr I F w=>by
 have key: ∀ {es:Es} {pes:List Expr} {ρ':List Addr} {st':St} {s':Shared},lG (SE C k sc) es pes→pes≠[]→At C γ env ρ st s ρ' st' s'→wOr (Calls C k) C.glo es st' Q X→wpAny C.M A (eval (.BoolOp .Or pes pos) env) (ek C γ ρ st s Q) (bA C γ ρ st s X) s':=fun {es pes ρ' st' s'} h=>by
  induction h generalizing ρ' st' s' with
  | nil=>exact fun h=>absurd rfl h
  | cons he hr' ih=>
   intro _ a w
   cases hr' with
   | nil=>exact BoolOp_one (he.at hs hr a w fun mv s₁ v st₁ ρ₁ w₁ r₁ a₁ S₁=>by
     obtain ⟨b,rfl,w₁⟩:=w₁
     rcases w₁ with ⟨rfl,w₁⟩ | ⟨rfl,w₁⟩<;>exact a₁.post w₁ r₁)
   | cons he' hr'=>exact BoolOp_or (he.at hs hr a w fun mv s₁ v st₁ ρ₁ w₁ r₁ a₁ S₁=>by
     obtain ⟨b,rfl,w₁⟩:=w₁
     obtain rfl:=r₁.bool_inv
     refine wpAny_truthy_bool ?_
     rcases w₁ with ⟨rfl,w₁⟩ | ⟨rfl,w₁⟩
     ·exact a₁.post w₁ (.bool _)
     ·exact ih (by simp) a₁ w₁)
 exact key h hne (At.start I F) w
theorem xJ {pos:Pos} {es:Es} {pes:List Expr} (h:lG (ST C k sc) es pes):ST C k sc (.and es) (.BoolOp .And pes pos):=fun env A s γ ρ st Q X hs hr I F w=>by
 have key: ∀ {es:Es} {pes:List Expr} {whole:Sem Value} {ρ':List Addr} {st':St} {s':Shared},lG (ST C k sc) es pes→At C γ env ρ st s ρ' st' s'→wW (Calls C k) C.glo es st' (fun v st=>∃ b,v=.bool b∧Q b st) X→wpAny C.M A (isTrue (.BoolOp .And pes pos) env whole) (wR C γ ρ st s Q) (bA C γ ρ st s X) s':=fun {es pes whole ρ' st' s'} h=>by
  induction h generalizing whole ρ' st' s' with
  | nil=>exact fun a ⟨b,hb,w⟩=>by cases hb; exact PyProof.Rows.isTrue_and_nil ⟨_,_,w,a.same,a.inv,a.stp⟩
  | @cons e pe es pes he hr' ih=>
   exact fun a w=>PyProof.Rows.isTrue_and (he.at (W:=fun b st=>(b=true∧wW (Calls C k) C.glo es st (fun v st=>∃ b,v=.bool b∧Q b st) X)∨(b=false∧∃ b,V.bool false=.bool b∧Q b st)) hs hr a w fun b s₁ st₁ ρ₁ w₁ a₁ S₁=>by
    rcases w₁ with ⟨rfl,w₁⟩ | ⟨rfl,b,hb,w₁⟩
    ·exact ih a₁ w₁
    ·cases hb; exact ⟨st₁,ρ₁,w₁,a₁.same,a₁.inv,a₁.stp⟩)
 exact key h (At.start I F) w
theorem AV {pos:Pos} {es:Es} {pes:List Expr} (h:lG (ST C k sc) es pes):ST C k sc (.or es) (.BoolOp .Or pes pos):=fun env A s γ ρ st Q X hs hr I F w=>by
 have key: ∀ {es:Es} {pes:List Expr} {whole:Sem Value} {ρ':List Addr} {st':St} {s':Shared},lG (ST C k sc) es pes→At C γ env ρ st s ρ' st' s'→wOr (Calls C k) C.glo es st' (fun v st=>∃ b,v=.bool b∧Q b st) X→wpAny C.M A (isTrue (.BoolOp .Or pes pos) env whole) (wR C γ ρ st s Q) (bA C γ ρ st s X) s':=fun {es pes whole ρ' st' s'} h=>by
  induction h generalizing whole ρ' st' s' with
  | nil=>exact fun a ⟨b,hb,w⟩=>by cases hb; exact PyProof.Rows.isTrue_or_nil ⟨_,_,w,a.same,a.inv,a.stp⟩
  | @cons e pe es pes he hr' ih=>
   exact fun a w=>PyProof.Rows.isTrue_or (he.at (W:=fun b st=>(b=true∧∃ b,V.bool true=.bool b∧Q b st)∨(b=false∧wOr (Calls C k) C.glo es st (fun v st=>∃ b,v=.bool b∧Q b st) X)) hs hr a w fun b s₁ st₁ ρ₁ w₁ a₁ S₁=>by
    rcases w₁ with ⟨rfl,b,hb,w₁⟩ | ⟨rfl,w₁⟩
    ·cases hb; exact ⟨st₁,ρ₁,w₁,a₁.same,a₁.inv,a₁.stp⟩
    ·exact ih a₁ w₁)
 exact key h (At.start I F) w
theorem gu {va:V} {ma:Value} {lo hi:Option Int} {ml mu:Value} {Q:V→St→Prop} {value slice:Expr} (a:At C γ env ρ₀ st₀ s₀ ρ st s) (ra:Rel s.heap ρ (Nl γ ρ st.H) va ma) (p1:lD (lo.map .int) ml lo) (p2:lD (hi.map .int) mu hi) (w:wY va lo hi st Q):
  wpAny C.M A (subscriptTail value slice ma (.ref s.heap.objs.size)) (ek C γ ρ₀ st₀ s₀ Q) (bA C γ ρ₀ st₀ s₀ X) { s with heap:=s.heap.push { cls:=.type "slice",data:=.fields #[ml,mu,.none]}}:=by
 rcases w with ⟨cs,rfl,w⟩ | ⟨xs,e,w⟩
 ·obtain ⟨t,rfl,hlen,ha⟩:=ra.str_inv
  exact wpAny_mono (iT (ρ:=ρ) (H:=st.H) hlen ha p1 p2) (fun mv s' p=>(a.grew p.2).post w (p.1.kept p.2.stp.kept)) fun _ _ x=>x
 ·obtain ⟨b,ms,rfl,hl,hr,hlen⟩:=a.inv.view ra e
  exact wpAny_mono (hJ hl hr hlen p1 p2) (fun _ _ p=>a.newP w p) fun _ _ x=>x
noncomputable def BS (C:Cx) (k:Nat) (sc:Scope) (e:E) (o:Option Expr):Prop:=(o=none∧e.isOmit=true)∨(e.isOmit=false∧∃ pe,o=some pe∧SE C k sc e pe)
theorem eU:lD ((none:Option Int).map V.int) Value.none none:=.inl ⟨rfl,rfl,rfl⟩
theorem gz (i:Int) (t:Tok):lD ((some i).map V.int) (.int i t) (some i):=.inr ⟨i,t,rfl,rfl,rfl⟩
theorem tf {b:Bool} {P:Prop} (h:b=true) (h':b=false):P:=by rw [h] at h'; cases h'
theorem xW {a lo hi:E} {pa:Expr} {pl ph:Option Expr} {p q:Pos} (ha:SE C k sc a pa) (hl:BS C k sc lo pl) (hh:BS C k sc hi ph):SE C k sc (.slc a lo hi) (.Subscript pa (.Slice pl ph none q) p):=fun env A s γ ρ st Q X hs hr I F w=>
 Subscript_ (ha.at hs hr (At.start I F) w fun ma s₁ va st₁ ρ₁ w₁ r₁ a₁ S₁=>wpAny_Slice (by
  rcases hl with ⟨rfl,hl⟩ | ⟨hl,pe,rfl,hl'⟩
  ·obtain ⟨_,w₁⟩:=w₁.resolve_right fun z=>tf hl z.1
   rw [evalPart_none]
   refine wpAny_pure ?_
   rcases hh with ⟨rfl,hh⟩ | ⟨hh,pe,rfl,hh'⟩
   ·obtain ⟨_,w₁⟩:=w₁.resolve_right fun z=>tf hh z.1
    rw [evalPart_none]
    exact wpAny_pure (wpAny_pure (gu a₁ r₁ eU eU w₁))
   ·obtain ⟨_,w₁⟩:=w₁.resolve_left fun z=>tf z.1 hh
    rw [evalPart_some]
    refine hh'.at hs hr a₁ w₁ fun mh s₂ vh st₂ ρ₂ w₂ r₂ a₂ S₂=>?_
    obtain ⟨j,rfl,w₂⟩:=w₂
    obtain ⟨t,rfl⟩:=r₂.int_inv
    exact wpAny_pure (gu a₂ (r₁.kept S₂.kept) eU (gz j t) w₂)
  ·obtain ⟨_,w₁⟩:=w₁.resolve_left fun z=>tf z.1 hl
   rw [evalPart_some]
   refine hl'.at hs hr a₁ w₁ fun ml s₂ vl st₂ ρ₂ w₂ r₂ a₂ S₂=>?_
   obtain ⟨i,rfl,w₂⟩:=w₂
   obtain ⟨t,rfl⟩:=r₂.int_inv
   rcases hh with ⟨rfl,hh⟩ | ⟨hh,pe,rfl,hh'⟩
   ·obtain ⟨_,w₂⟩:=w₂.resolve_right fun z=>tf hh z.1
    rw [evalPart_none]
    exact wpAny_pure (wpAny_pure (gu a₂ (r₁.kept S₂.kept) (gz i t) eU w₂))
   ·obtain ⟨_,w₂⟩:=w₂.resolve_left fun z=>tf z.1 hh
    rw [evalPart_some]
    refine hh'.at hs hr a₂ w₂ fun mh s₃ vh st₃ ρ₃ w₃ r₃ a₃ S₃=>?_
    obtain ⟨j,rfl,w₃⟩:=w₃
    obtain ⟨t',rfl⟩:=r₃.int_inv
    exact wpAny_pure (gu a₃ ((r₁.kept S₂.kept).kept S₃.kept) (gz i t) (gz j t') w₃)))
end
end
noncomputable section
open PySem PyProof.Rows
section
variable {α:Type} {le:α→α→Bool} {l:List α}
theorem ls {p q:α→Bool}: ∀ {l:List α},(∀ z∈l,p z=true→q z=true)→∀ x∈l,q x=true→p x=false→l.countP p < l.countP q
 | [],_,_,h,_,_=>absurd h List.not_mem_nil
 | y::l,h,x,hx,hq,hp=>by
  have hle:l.countP p≤l.countP q:=List.countP_mono_left fun z hz=>h z (List.mem_cons_of_mem _ hz)
  rcases List.mem_cons.mp hx with rfl | hx
  ·rw [List.countP_cons_of_neg (by rw [hp]; exact Bool.false_ne_true),List.countP_cons_of_pos hq]; exact Nat.lt_succ_of_le hle
  ·have ih:=ls (fun z hz=>h z (List.mem_cons_of_mem _ hz)) x hx hq hp
   by_cases e:p y=true
   ·rw [List.countP_cons_of_pos e,List.countP_cons_of_pos (h y List.mem_cons_self e)]; exact Nat.succ_lt_succ ih
   ·rw [List.countP_cons_of_neg e]
    exact Nat.lt_of_lt_of_le ih (List.Sublist.countP_le (List.sublist_cons_self y l))
noncomputable def rank (le:α→α→Bool) (l:List α) (x:α):Int:=(l.countP fun z=>!le x z:Nat)
structure ko (le:α→α→Bool) (l:List α):Prop where
 tot: ∀ x∈l,∀ y∈l,le x y=true∨le y x=true
 tr: ∀ x∈l,∀ y∈l,∀ z∈l,le x y=true→le y z=true→le x z=true
 anti: ∀ x∈l,∀ y∈l,le x y=true→le y x=true→x=y
theorem ko.rank (O:ko le l) {x y:α} (hx:x∈l) (hy:y∈l):decide (rank le l x < rank le l y)= !le y x:=by
 unfold Mine.rank
 rw [Bool.eq_iff_iff,decide_eq_true_iff,Int.ofNat_lt,Bool.not_eq_true']
 constructor
 ·intro h
  cases e:le y x with
  | false=>rfl
  | true=>
   refine absurd h (Nat.not_lt.mpr (List.countP_mono_left fun z hz q=>?_))
   rw [Bool.not_eq_true'] at q ⊢
   cases e':le x z with
   | false=>rfl
   | true=>rw [O.tr y hy x hx z hz e e'] at q; cases q
 ·intro e
  refine ls (fun z hz q=>?_) x hx (by rw [e]; rfl) (by rw [(O.tot x hx x hx).elim id id]; rfl)
  rw [Bool.not_eq_true'] at q ⊢
  cases e':le y z with
  | false=>rfl
  | true=>
   have:=(O.tot x hx z hz).resolve_left (by rw [q]; exact Bool.false_ne_true)
   rw [O.tr y hy z hz x hx e' this] at e; cases e
theorem ko.le_of (O:ko le l) {x y:α} (hx:x∈l) (hy:y∈l) (h:Mine.rank le l x≤Mine.rank le l y):le x y=true:=by
 have:=O.rank hy hx
 rw [decide_eq_false (Int.not_lt.mpr h)] at this
 rwa [Bool.false_eq,Bool.not_eq_false'] at this
end
theorem aI.perm {h:Heap} {ρ:List Addr} {N:Addr→Prop} {out ms:List Value} (p:out.Perm ms): ∀ {xs:List V},aI h ρ N xs ms→∃ zs:List V,zs.Perm xs∧aI h ρ N zs out:=by
 induction p with
 | nil=>exact fun r=>⟨_,.refl _,r⟩
 | cons a _ ih=>
  intro xs r
  cases r with
  | cons b r=>obtain ⟨zs,h1,h2⟩:=ih r; exact ⟨_,h1.cons _,.cons b h2⟩
 | swap a b l=>
  intro xs r
  cases r with
  | cons x r=>cases r with | cons y r=>exact ⟨_,.swap ..,.cons y (.cons x r)⟩
 | trans _ _ ih1 ih2=>
  intro xs r
  obtain ⟨zs,h1,h2⟩:=ih2 r
  obtain ⟨us,h3,h4⟩:=ih1 h2
  exact ⟨us,h3.trans h1,h4⟩
section
variable {C:Cx} {A:Around} {E:Value→Shared→Prop} {s:Shared} {ρ:List Addr} {N:Addr→Prop}
structure sr (C:Cx) (s:Shared) (ρ:List Addr) (N:Addr→Prop) (kd:SortKind) (xs:List V) (ms:List Value):Prop where
 ord:ko leV xs
 uni: ∀ v∈xs,∀ v'∈xs,∀ m,Rel s.heap ρ N v m→Rel s.heap ρ N v' m→v=v'
 kind: ∀ (A:Around) (E:Value→Shared→Prop) (s':Shared),(∀ b o,s.heap.get? b=some o→s'.heap.get? b=some o)→2≤ms.length→wpAny C.M A (keyKind' ms.toArray) (fun k s''=>k=kd∧s''=s') E s'
 less: ∀ (A:Around) (E:Value→Shared→Prop) (s':Shared) (Q:Bool→Shared→Prop),A.units < cLine→(∀ b o,s.heap.get? b=some o→s'.heap.get? b=some o)→∀ v∈xs,∀ v'∈xs,∀ m m',Rel s.heap ρ N v m→Rel s.heap ρ N v' m'→Q (!leV v' v) s'→wpAny C.M A (keyLt' kd m m') Q E s'
theorem dU {a:Addr} {xs:List V} {ms:List Value} (hl:s.heap.PlainList a ms.toArray) (r:aI s.heap ρ N xs ms) (hlen:xs.length≤1000000) (R:List Value→Shared→Prop) (h: ∀ ms h' tk,(∀ b o,s.heap.get? b=some o→h'.get? b=some o)→aI s.heap ρ N xs ms→R ms { s with heap:=h',toks:=tk }):wpAny C.M A (collect (.ref a)) R E s:=by
 refine collect_list hl.isList (h _ _ s.toks (fun b o hb=>?_) r) (by rw [← r.length,sizeLine_eq]; exact lin [_] [(1,.v 0,.n 1000000)] 1 (.v 0) (.n 16777216) rfl hlen)
 rw [Heap.get?_update_ne _ _ _ _ (Nat.ne_of_lt (Heap.lt_size hb))]
 exact Heap.get?_push_of_some _ hb
open Classical in
theorem cA {x:Value} {xs ys:List V} {kd:SortKind} (hc: ∀ R:List Value→Shared→Prop,(∀ ms h' tk,(∀ b o,s.heap.get? b=some o→h'.get? b=some o)→aI s.heap ρ N xs ms→R ms { s with heap:=h',toks:=tk })→wpAny C.M A.in1 (collect x) R E s)
  (hu:A.units+2 < cLine) (S: ∀ ms,aI s.heap ρ N xs ms→sr C s ρ N kd xs ms) (hlen:xs.length≤1000000) (hp:ys.Perm xs) (hs:ys.Pairwise fun a b=>leV a b=true):
  wpAny C.M A (call (.builtin "sorted") [x]) (cw s ρ N ys) E s:=by
 let val:Value→V:=fun m=>if h: ∃ v∈xs,Rel s.heap ρ N v m then Classical.choose h else .none
 refine qp (kd:=kd) (κ:=fun m=>rank leV xs (val m)) hc (fun ms r=>by rw [← r.length]; exact lin [_] [(1,.v 0,.n 1000000)] 1 (.v 0) (.n 16000000) rfl hlen) (fun ms r s' k h2=>(S ms r).kind _ _ s' k h2) (fun ms r s' k x y hx hy st Q hk hq=>?_) fun ms out h' tk a r p q kp hf ho=>?_
 all_goals
  have S:=S ms r
  have hv: ∀ v∈xs,∀ m,Rel s.heap ρ N v m→val m=v:=fun v hv m q=>by
   have h: ∃ v∈xs,Rel s.heap ρ N v m:=⟨v,hv,q⟩
   show (if h: ∃ v∈xs,Rel s.heap ρ N v m then Classical.choose h else .none)=v
   rw [dif_pos h]
   exact S.uni _ (Classical.choose_spec h).1 v hv m (Classical.choose_spec h).2 q
 ·have hm: ∀ m∈ms,∃ v∈xs,Rel s.heap ρ N v m:=fun m q=>by
   obtain ⟨i,e⟩:=List.mem_iff_getElem?.mp q
   obtain ⟨v,e1,e2⟩:=r.get' e
   exact ⟨v,List.mem_of_getElem? e1,e2⟩
  rw [pairsOf_toList] at hx hy
  obtain ⟨v,hv1,r1⟩:=hm _ (mem_zip_self hx).2
  obtain ⟨u,hu1,r2⟩:=hm _ (mem_zip_self hy).2
  rw [lt'_eq]
  refine wpS_bind (wpS_get ?_)
  rw [hk]
  refine wpS_bind (wpS_lift (wpAny_attempt (S.less _ _ s' _ hu k v hv1 u hu1 _ _ r1 r2 ⟨rfl,wpS_pure ?_⟩)))
  rw [← S.ord.rank hv1 hu1,← hv v hv1 _ r1,← hv u hu1 _ r2]
  exact hq
 ·obtain ⟨zs,p',r'⟩:=r.perm p
  have e:zs=ys:=by
   refine (p'.trans hp.symm).eq_of_pairwise (le:=fun a b=>leV a b=true) (fun x y hx hy=>S.ord.anti x (p'.mem_iff.mp hx) y (hp.mem_iff.mp hy)) ?_ hs
   rw [List.pairwise_iff_getElem]
   intro i j hi hj hij
   have gi:zs[i]∈xs:=p'.mem_iff.mp (List.getElem_mem _)
   have gj:zs[j]∈xs:=p'.mem_iff.mp (List.getElem_mem _)
   obtain ⟨m,e1,r1⟩:=r'.get (List.getElem?_eq_getElem hi)
   obtain ⟨m',e2,r2⟩:=r'.get (List.getElem?_eq_getElem hj)
   obtain ⟨hi',q1⟩:=List.getElem?_eq_some_iff.mp e1
   obtain ⟨hj',q2⟩:=List.getElem?_eq_some_iff.mp e2
   have:=List.pairwise_iff_getElem.mp q i j hi' hj' hij
   rw [q1,q2,hv _ gi _ r1,hv _ gj _ r2] at this
   exact S.ord.le_of gi gj this
  subst e
  obtain ⟨e,he⟩:=ho
  refine ⟨_,out.toList,rfl,hf,⟨kp,rfl,rfl⟩,⟨e,by simpa [seqObj] using he⟩,r',?_⟩
  rw [hp.length_eq]; unfold ay; exact lin [_] [(1,.v 0,.n 1000000)] 1 (.v 0) (.n 16777216) rfl hlen
end
end
noncomputable section
open PySem PyProof.Rows PySem.W
section
variable {C:Cx} {s:Shared} {ρ:List Addr} {N:Addr→Prop}
theorem dA (a b:Int):leV (.int a) (.int b)=decide (a≤b):=rfl
theorem eX (a b c d:Int):leV (.tup [.int a,.int b]) (.tup [.int c,.int d])=decide (a < c∨a=c∧b≤d):=by
 show (if (a == c)=true then (if (b == d)=true then true else decide (b≤d)) else decide (a≤c))=_
 by_cases h:a=c
 ·subst h
  rw [if_pos (beq_self_eq_true a)]
  by_cases h':b=d
  ·subst h'; rw [if_pos (beq_self_eq_true b)]; simp
  ·rw [if_neg (by simpa using h')]; simp
 ·rw [if_neg (by simpa using h)]
  rw [decide_eq_decide]
  constructor
  ·intro q; exact .inl (Int.lt_iff_le_and_ne.mpr ⟨q,h⟩)
  ·rintro (q | q)
   ·exact Int.le_of_lt q
   ·exact absurd q.1 h
theorem mz {a d:Int} {P Q:Prop} (h:P∨Q):(a < d∨a=d∧P)∨(d < a∨d=a∧Q):=by
 rcases Int.lt_trichotomy a d with z | z | z
 ·exact .inl (.inl z)
 ·exact h.elim (fun h=>.inl (.inr ⟨z,h⟩)) fun h=>.inr (.inr ⟨z.symm,h⟩)
 ·exact .inr (.inl z)
theorem qR {a d g:Int} {P Q R:Prop} (h:P→Q→R) (p:a < d∨a=d∧P) (q:d < g∨d=g∧Q):a < g∨a=g∧R:=by
 rcases p with p | ⟨rfl,p⟩
 ·exact .inl (q.elim (Int.lt_trans p) fun q=>q.1▸p)
 ·exact q.imp_right fun q=>⟨q.1,h p q.2⟩
theorem jT {a d:Int} {P Q:Prop} (p:a < d∨a=d∧P) (q:d < a∨d=a∧Q):a=d∧P∧Q:=by
 rcases p with p | ⟨rfl,p⟩
 ·exact absurd p (q.elim (fun q=>Int.lt_asymm q) fun q=>q.1▸Int.lt_irrefl _)
 ·exact ⟨rfl,p,q.elim (fun q=>absurd q (Int.lt_irrefl _)) (·.2)⟩
theorem qS {a d:Int} {P:Prop} (h: ¬ a=d): ¬ (d < a∨d=a∧P) ↔ a < d:=
 ⟨fun z=>(Int.lt_or_gt_of_ne h).resolve_right fun q=>z (.inl q),fun z q=>q.elim (Int.lt_asymm z) fun q=>h q.1.symm⟩
theorem qT {a d:Int} {P R:Prop} (h:a=d) (k: ¬ P ↔ R): ¬ (d < a∨d=a∧P) ↔ R:=
 ⟨fun z=>k.mp fun q=>z (.inr ⟨h.symm,q⟩),fun z q=>q.elim (fun q=>Int.lt_irrefl _ (h▸q)) fun q=>k.mpr z q.2⟩
theorem pk {xs:List V} (h: ∀ v∈xs,∃ i,v=.int i):ko leV xs:=by
 refine ⟨fun x hx y hy=>?_,fun x hx y hy z hz=>?_,fun x hx y hy=>?_⟩
 ·obtain ⟨a,rfl⟩:=h x hx
  obtain ⟨b,rfl⟩:=h y hy
  rw [dA,dA,decide_eq_true_iff,decide_eq_true_iff]; exact Int.le_total a b
 ·obtain ⟨a,rfl⟩:=h x hx
  obtain ⟨b,rfl⟩:=h y hy
  obtain ⟨c,rfl⟩:=h z hz
  rw [dA,dA,dA,decide_eq_true_iff,decide_eq_true_iff,decide_eq_true_iff]; exact Int.le_trans
 ·obtain ⟨a,rfl⟩:=h x hx
  obtain ⟨b,rfl⟩:=h y hy
  rw [dA,dA,decide_eq_true_iff,decide_eq_true_iff]; exact fun p q=>congrArg _ (Int.le_antisymm p q)
theorem qK {xs:List V} (h: ∀ v∈xs,∃ i j,v=.tup [.int i,.int j]):ko leV xs:=by
 refine ⟨fun x hx y hy=>?_,fun x hx y hy z hz=>?_,fun x hx y hy=>?_⟩
 ·obtain ⟨a,b,rfl⟩:=h x hx
  obtain ⟨c,d,rfl⟩:=h y hy
  rw [eX,eX,decide_eq_true_iff,decide_eq_true_iff]; exact mz (Int.le_total b d)
 ·obtain ⟨a,b,rfl⟩:=h x hx
  obtain ⟨c,d,rfl⟩:=h y hy
  obtain ⟨e,f,rfl⟩:=h z hz
  rw [eX,eX,eX,decide_eq_true_iff,decide_eq_true_iff,decide_eq_true_iff]; exact qR Int.le_trans
 ·obtain ⟨a,b,rfl⟩:=h x hx
  obtain ⟨c,d,rfl⟩:=h y hy
  rw [eX,eX,decide_eq_true_iff,decide_eq_true_iff]
  intro p q
  obtain ⟨rfl,p,q⟩:=jT p q
  rw [Int.le_antisymm p q]
theorem oS {xs:List V} {ms:List Value} (r:aI s.heap ρ N xs ms) (h: ∀ v∈xs,∃ i,v=.int i):sr C s ρ N oneType' xs ms:=by
 refine ⟨pk h,fun v hv v' hv' m q q'=>?_,fun A E s' k h2=>?_,fun A E s' Q _ k v hv v' hv' m m' q q' hQ=>?_⟩
 ·obtain ⟨a,rfl⟩:=h v hv
  obtain ⟨b,rfl⟩:=h v' hv'
  cases q; cases q'; rfl
 ·have ia:IntsAre ms (ms.map numOf):=intsAre_map ms fun m hm=>by
   obtain ⟨i,e⟩:=List.mem_iff_getElem?.mp hm
   obtain ⟨v,e1,e2⟩:=r.get' e
   obtain ⟨a,rfl⟩:=h v (List.mem_of_getElem? e1)
   cases e2; exact ⟨_,_,rfl⟩
  match ms,h2,ia with
  | v₁::v₂::rest,_,ia=>rw [keyKind_ints ia]; exact wpAny_pure ⟨rfl,rfl⟩
 ·obtain ⟨a,rfl⟩:=h v hv
  obtain ⟨b,rfl⟩:=h v' hv'
  cases q; cases q'
  rw [keyLt'_oneType]
  refine oneLt_int ?_
  rw [dA,← decide_not] at hQ
  rwa [show decide (a < b)=decide (¬ b≤a) from decide_eq_decide.mpr Int.not_le.symm]
theorem dz (a b:List Nat):leV (.str a) (.str b)=decide (a≤b):=rfl
theorem pj {xs:List V} (h: ∀ v∈xs,∃ i,v=.str i):ko leV xs:=by
 refine ⟨fun x hx y hy=>?_,fun x hx y hy z hz=>?_,fun x hx y hy=>?_⟩
 ·obtain ⟨a,rfl⟩:=h x hx
  obtain ⟨b,rfl⟩:=h y hy
  rw [dz,dz,decide_eq_true_iff,decide_eq_true_iff]; exact List.le_total a b
 ·obtain ⟨a,rfl⟩:=h x hx
  obtain ⟨b,rfl⟩:=h y hy
  obtain ⟨c,rfl⟩:=h z hz
  rw [dz,dz,dz,decide_eq_true_iff,decide_eq_true_iff,decide_eq_true_iff]; exact List.le_trans
 ·obtain ⟨a,rfl⟩:=h x hx
  obtain ⟨b,rfl⟩:=h y hy
  rw [dz,dz,decide_eq_true_iff,decide_eq_true_iff]; exact fun p q=>congrArg _ (List.le_antisymm p q)
theorem oQ {xs:List V} {ms:List Value} (r:aI s.heap ρ N xs ms) (h: ∀ v∈xs,∃ i,v=.str i):sr C s ρ N oneType' xs ms:=by
 refine ⟨pj h,fun v hv v' hv' m q q'=>?_,fun A E s' k h2=>?_,fun A E s' Q _ k v hv v' hv' m m' q q' hQ=>?_⟩
 ·obtain ⟨a,rfl⟩:=h v hv
  obtain ⟨b,rfl⟩:=h v' hv'
  obtain ⟨t,e,_⟩:=q.str_inv
  obtain ⟨u,e',_⟩:=q'.str_inv
  rw [e] at e'
  have e2:=(Value.str.inj e').1
  have:a.toArray=b.toArray:=congrArg Str.cps e2
  rw [show a=b by simpa using this]
 ·have ia:StrsAre ms (ms.map strOf):=strsAre_map ms fun m hm=>by
   obtain ⟨i,e⟩:=List.mem_iff_getElem?.mp hm
   obtain ⟨v,e1,e2⟩:=r.get' e
   obtain ⟨a,rfl⟩:=h v (List.mem_of_getElem? e1)
   obtain ⟨t,e3,_⟩:=e2.str_inv
   exact ⟨_,t,e3⟩
  match ms,h2,ia with
  | v₁::v₂::rest,_,ia=>rw [keyKind_strs ia]; exact wpAny_pure ⟨rfl,rfl⟩
 ·obtain ⟨a,rfl⟩:=h v hv
  obtain ⟨b,rfl⟩:=h v' hv'
  obtain ⟨t,rfl,_⟩:=q.str_inv
  obtain ⟨u,rfl,_⟩:=q'.str_inv
  rw [keyLt'_oneType]
  refine oneLt_str ?_
  rw [dz,← decide_not] at hQ
  rwa [show decide ((⟨a.toArray⟩:Str).cps.toList < (⟨b.toArray⟩:Str).cps.toList)=decide (¬ b≤a) from decide_eq_decide.mpr List.not_le.symm]
theorem sw {h:Heap} {x y:Int} {m:Value} (q:Rel h ρ N (.tup [.int x,.int y]) m): ∃ a o t u n,m=.ref a∧h.get? a=some o∧o.cls=.type "tuple" ∧o.data=.seq #[.int x t,.int y u] n:=by
 obtain ⟨a,ms,rfl,ht,_,_,r⟩:=q.tup_inv
 obtain ⟨m1,r1,rfl,q1,r⟩:=r.cons_inv
 obtain ⟨m2,r2,rfl,q2,r⟩:=r.cons_inv
 obtain rfl:=r.nil_inv
 obtain ⟨t,rfl⟩:=q1.int_inv
 obtain ⟨u,rfl⟩:=q2.int_inv
 obtain ⟨o,ho,hc,n,hd⟩:=ht
 exact ⟨a,o,t,u,n,rfl,ho,hc,hd⟩
theorem wm {h:Heap} {xs:List V} {ms:List Value} (r:aI h ρ N xs ms):(∀ v∈xs,∃ i j,v=.tup [.int i,.int j])→∃ fs:List Value,KatTups h ms fs∧fs.length=ms.length∧∀ v∈fs,∃ i t,v=.int i t:=
 r.walk (L:=fun xs ms=>(∀ v∈xs,∃ i j,v=.tup [.int i,.int j])→∃ fs:List Value,KatTups h ms fs∧fs.length=ms.length∧∀ v∈fs,∃ i t,v=.int i t) (fun _=>⟨[],.nil,rfl,fun _ q=>absurd q List.not_mem_nil⟩) fun a _ ih hv=>by
  obtain ⟨i,j,rfl⟩:=hv _ List.mem_cons_self
  obtain ⟨ad,o,t,u,n,rfl,ho,hc,hd⟩:=sw a
  obtain ⟨fs,h1,h2,h3⟩:=ih fun v q=>hv v (List.mem_cons_of_mem _ q)
  refine ⟨.int i t::fs,.cons ho hc hd rfl h1,congrArg Nat.succ h2,fun v q=>?_⟩
  rcases List.mem_cons.mp q with rfl | q
  ·exact ⟨i,t,rfl⟩
  ·exact h3 v q
theorem qo {xs:List V} {ms:List Value} (r:aI s.heap ρ N xs ms) (h: ∀ v∈xs,∃ i j,v=.tup [.int i,.int j]):sr C s ρ N (tuples' true) xs ms:=by
 refine ⟨qK h,fun v hv v' hv' m q q'=>?_,fun A E s' k h2=>?_,fun A E s' Q _ k v hv v' hv' m m' q q' hQ=>?_⟩
 ·obtain ⟨a,b,rfl⟩:=h v hv
  obtain ⟨c,d,rfl⟩:=h v' hv'
  obtain ⟨ad,o,t,u,n,rfl,ho,_,hd⟩:=sw q
  obtain ⟨ad',o',t',u',n',e,ho',_,hd'⟩:=sw q'
  cases e
  rw [ho] at ho'; cases ho'
  rw [hd] at hd'; cases hd'; rfl
 ·obtain ⟨fs,h1,h3,h4⟩:=wm r h
  have t:KatTups s'.heap ms fs:=by
   clear h2 h3 h4 r
   induction ms generalizing fs with
   | nil=>cases fs with | nil=>trivial | cons _ _=>exact h1.elim
   | cons m ms ih=>cases fs with
    | nil=>exact h1.elim
    | cons f fs=>exact ⟨let ⟨a,o,xs,n,e,ho,z⟩:=h1.1; ⟨a,o,xs,n,e,k a o ho,z⟩,ih fs h1.2⟩
  refine kat_kind (T:=.type "int") t (by exact lin [_,_] [(1,.n 2,.v 1),(1,.v 1,.v 0)] 1 (.a (.n 0) (.n 1)) (.v 0) rfl h2 (l_s h3)) (fun v hv=>?_) rfl ⟨rfl,rfl⟩
  obtain ⟨i,tk,rfl⟩:=h4 v hv
  exact fun A Q E s _ q=>wpAny_pure q
 ·obtain ⟨a,b,rfl⟩:=h v hv
  obtain ⟨c,d,rfl⟩:=h v' hv'
  obtain ⟨ad,o,t,u,n,rfl,ho,_,hd⟩:=sw q
  obtain ⟨ad',o',t',u',n',rfl,ho',_,hd'⟩:=sw q'
  rw [eX,← decide_not] at hQ
  refine kat_lt (k _ _ ho) hd (k _ _ ho') hd' (kat_cons (wpAny_eqBool_int (kat_go (fun e=>kat_yes (kat_cons (wpAny_eqBool_int (kat_go (fun e'=>kat_yes (kat_nil ?_)) fun e'=>kat_no (kat_one _ _ (wpAny_lt_int ?_)))))) fun e=>kat_no (oneLt_int ?_))))
  ·rwa [decide_eq_false (fun z=>z (.inr ⟨(beq_iff_eq.mp e).symm,Int.le_of_eq (beq_iff_eq.mp e').symm⟩))] at hQ
  ·show Q (decide (b < d)) s'
   rwa [decide_eq_decide.mpr (qT (beq_iff_eq.mp e) Int.not_le)] at hQ
  ·rwa [decide_eq_decide.mpr (qS (beq_eq_false_iff_ne.mp e))] at hQ
end
end
noncomputable section
open PySem PyProof.Rows PySem.W
section
variable {C:Cx} {A:Around} {E:Value→Shared→Prop} {s:Shared} {ρ:List Addr} {N:Addr→Prop}
theorem xE {prog:Program} {w:World} {a b:Addr} {oa ob:Obj} {x y x' y':Int} {t u t' u':Tok} {n n':Nat} {Q:Value→Shared→Prop} (hu:A.units < cLine) (ha:s.heap.get? a=some oa) (ca:oa.cls=.type "tuple") (da:oa.data=.seq #[.int x t,.int y u] n)
  (hb:s.heap.get? b=some ob) (cb:ob.cls=.type "tuple") (db:ob.data=.seq #[.int x' t',.int y' u'] n') (h:Q (.bool (decide (x < x'∨x=x'∧y < y'))) s):wpAny (model prog w) A (compareOp .Lt (.ref a) (.ref b)) Q E s:=by
 show wpAny _ _ (richCompare .Lt (.ref a) (.ref b)) Q E s
 have TA:s.TypeIs (.ref a) "tuple" :=⟨_,ha,ca⟩
 have TB:s.TypeIs (.ref b) "tuple" :=⟨_,hb,cb⟩
 refine wpAny_richCompare_same_room (op:=.Lt) (T:= "tuple") TA TB PySem.F.slot_tuple_lt ?_ hu
 refine wpAny_call_entry PySem.F.slot_tuple_lt TA PySem.F.entry_tuple_lt ?_ (PySem.F.args_tuple_lt_2 _ _)
 show wpAny _ _ (isInstance (.ref b) (.type "tuple") >>= _) _ _ s
 refine wpAny_bind (wpAny_isInstance TB isSubtype_tuple_tuple ?_)
 simp only [Bool.not_true,Bool.false_eq_true,if_false]
 refine wpAny_bind (wpAny_tupleItemsOf ha da ?_)
 refine wpAny_bind (wpAny_tupleItemsOf hb db ?_)
 refine wpAny_bind ?_
 simp only [List.zip_cons_cons,List.zip_nil_right,List.forIn_cons,List.forIn_nil]
 have lt: ∀ (p q:Int) (tp tq:Tok) {R:Value→Shared→Prop},R (.bool (decide (p < q))) s→wpAny (model prog w) A.in1 (richCompare .Lt (.int p tp) (.int q tq)) R E s:=fun p q tp tq R hR=>wpAny_lt_int hR
 refine wpAny_bind (wpAny_bind (wpAny_eqBool_int ?_))
 by_cases e:x=x'
 ·subst e
  rw [beq_self_eq_true,Bool.not_true,if_neg Bool.false_ne_true]
  refine wpAny_pure ?_
  dsimp only
  refine wpAny_bind (wpAny_bind (wpAny_eqBool_int ?_))
  by_cases e:y=y'
  ·subst e
   rw [decide_eq_false (fun z=>z.elim (Int.lt_irrefl _) fun z=>Int.lt_irrefl _ z.2)] at h
   rw [beq_self_eq_true,Bool.not_true,if_neg Bool.false_ne_true]
   exact wpAny_pure (wpAny_pure (wpAny_pure ⟨_,rfl,(fun z=>nomatch z),h⟩))
  ·rw [decide_eq_decide.mpr (show (x < x∨x=x∧y < y') ↔ y < y' from ⟨fun z=>z.elim (fun z=>absurd z (Int.lt_irrefl _)) (·.2),fun z=>.inr ⟨rfl,z⟩⟩)] at h
   rw [beq_eq_false_iff_ne.mpr e,Bool.not_false,if_pos rfl]
   exact wpAny_bind (wpAny_rule (wpAny_bind (lt _ _ _ _ (wpAny_bind (wpAny_pure (wpAny_pure (wpAny_pure (wpAny_pure ⟨_,rfl,(fun z=>nomatch z),h⟩))))))))
 ·rw [decide_eq_decide.mpr (show (x < x'∨x=x'∧y < y') ↔ x < x' from ⟨fun z=>z.elim id fun z=>absurd z.1 e,fun z=>.inl z⟩)] at h
  rw [beq_eq_false_iff_ne.mpr e,Bool.not_false,if_pos rfl]
  exact wpAny_bind (wpAny_rule (wpAny_bind (lt _ _ _ _ (wpAny_bind (wpAny_pure (wpAny_pure (wpAny_pure (wpAny_pure ⟨_,rfl,(fun z=>nomatch z),h⟩))))))))
theorem dy (a b c d e f:Int):leV (.tup [.int a,.tup [.int b,.int c]]) (.tup [.int d,.tup [.int e,.int f]])=decide (a < d∨a=d∧(b < e∨b=e∧c≤f)):=by
 show (if (a == d)=true then (if (b == e && (c == f && true))=true then true else leV (.tup [.int b,.int c]) (.tup [.int e,.int f])) else decide (a≤d))=_
 rw [eX]
 by_cases h:a=d
 ·subst h
  rw [if_pos (beq_self_eq_true a),decide_eq_decide.mpr (show (a < a∨a=a∧(b < e∨b=e∧c≤f)) ↔ (b < e∨b=e∧c≤f) from ⟨fun z=>z.elim (fun z=>absurd z (Int.lt_irrefl _)) (·.2),fun z=>.inr ⟨rfl,z⟩⟩)]
  by_cases q:(b == e && (c == f && true))=true
  ·rw [if_pos q]
   rw [Bool.and_true,Bool.and_eq_true,beq_iff_eq,beq_iff_eq] at q
   exact (decide_eq_true (.inr ⟨q.1,Int.le_of_eq q.2⟩)).symm
  ·rw [if_neg q]
 ·rw [if_neg (fun z=>h (beq_iff_eq.mp z)),decide_eq_decide]
  exact ⟨fun q=>.inl (Int.lt_iff_le_and_ne.mpr ⟨q,h⟩),fun q=>q.elim Int.le_of_lt fun q=>absurd q.1 h⟩
theorem hM {xs:List V} (h: ∀ v∈xs,∃ i j k,v=.tup [.int i,.tup [.int j,.int k]]):ko leV xs:=by
 refine ⟨fun x hx y hy=>?_,fun x hx y hy z hz=>?_,fun x hx y hy=>?_⟩
 ·obtain ⟨a,b,c,rfl⟩:=h x hx
  obtain ⟨d,e,f,rfl⟩:=h y hy
  rw [dy,dy,decide_eq_true_iff,decide_eq_true_iff]; exact mz (mz (Int.le_total c f))
 ·obtain ⟨a,b,c,rfl⟩:=h x hx
  obtain ⟨d,e,f,rfl⟩:=h y hy
  obtain ⟨g,i,j,rfl⟩:=h z hz
  rw [dy,dy,dy,decide_eq_true_iff,decide_eq_true_iff,decide_eq_true_iff]; exact qR (qR Int.le_trans)
 ·obtain ⟨a,b,c,rfl⟩:=h x hx
  obtain ⟨d,e,f,rfl⟩:=h y hy
  rw [dy,dy,decide_eq_true_iff,decide_eq_true_iff]
  intro p q
  obtain ⟨rfl,p,q⟩:=jT p q
  obtain ⟨rfl,p,q⟩:=jT p q
  rw [Int.le_antisymm p q]
theorem xF {h:Heap} {x y z:Int} {m:Value} (q:Rel h ρ N (.tup [.int x,.tup [.int y,.int z]]) m): ∃ a o t a' n,m=.ref a∧h.get? a=some o∧o.cls=.type "tuple" ∧o.data=.seq #[.int x t,.ref a'] n∧Rel h ρ N (.tup [.int y,.int z]) (.ref a'):=by
 obtain ⟨a,ms,rfl,ht,_,_,r⟩:=q.tup_inv
 obtain ⟨m1,r1,rfl,q1,r⟩:=r.cons_inv
 obtain ⟨m2,r2,rfl,q2,r⟩:=r.cons_inv
 obtain rfl:=r.nil_inv
 obtain ⟨t,rfl⟩:=q1.int_inv
 obtain ⟨a',o',t',u',n',rfl,ho',hc',hd'⟩:=sw q2
 obtain ⟨o,ho,hc,n,hd⟩:=ht
 exact ⟨a,o,t,a',n,rfl,ho,hc,hd,q2⟩
theorem zc {h:Heap} {xs:List V} {ms:List Value} (r:aI h ρ N xs ms):(∀ v∈xs,∃ i j k,v=.tup [.int i,.tup [.int j,.int k]])→∃ fs:List Value,KatTups h ms fs∧fs.length=ms.length∧∀ v∈fs,∃ i t,v=.int i t:=
 r.walk (L:=fun xs ms=>(∀ v∈xs,∃ i j k,v=.tup [.int i,.tup [.int j,.int k]])→∃ fs:List Value,KatTups h ms fs∧fs.length=ms.length∧∀ v∈fs,∃ i t,v=.int i t) (fun _=>⟨[],.nil,rfl,fun _ q=>absurd q List.not_mem_nil⟩) fun a _ ih hv=>by
  obtain ⟨i,j,l,rfl⟩:=hv _ List.mem_cons_self
  obtain ⟨ad,o,t,a',n,rfl,ho,hc,hd,_⟩:=xF a
  obtain ⟨fs,h1,h2,h3⟩:=ih fun v q=>hv v (List.mem_cons_of_mem _ q)
  refine ⟨.int i t::fs,.cons ho hc hd rfl h1,congrArg Nat.succ h2,fun v q=>?_⟩
  rcases List.mem_cons.mp q with rfl | q
  ·exact ⟨i,t,rfl⟩
  ·exact h3 v q
theorem qn {xs:List V} {ms:List Value} (r:aI s.heap ρ N xs ms) (h: ∀ v∈xs,∃ i j k,v=.tup [.int i,.tup [.int j,.int k]]):sr C s ρ N (tuples' true) xs ms:=by
 refine ⟨hM h,fun v hv v' hv' m q q'=>?_,fun A E s' k h2=>?_,fun A E s' Q hu k v hv v' hv' m m' q q' hQ=>?_⟩
 ·obtain ⟨a,b,c,rfl⟩:=h v hv
  obtain ⟨a',b',c',rfl⟩:=h v' hv'
  obtain ⟨ad,o,t,p,n,rfl,ho,_,hd,r1⟩:=xF q
  obtain ⟨ad',o',t',p',n',e,ho',_,hd',r2⟩:=xF q'
  cases e
  rw [ho] at ho'; cases ho'
  rw [hd] at hd'; cases hd'
  obtain ⟨x1,x2,x3,x4,x5,e,y1,_,y3⟩:=sw r1
  obtain ⟨z1,z2,z3,z4,z5,e',w1,_,w3⟩:=sw r2
  cases e; cases e'
  rw [y1] at w1; cases w1
  rw [y3] at w3; cases w3; rfl
 ·obtain ⟨fs,h1,h3,h4⟩:=zc r h
  have t:KatTups s'.heap ms fs:=by
   clear h2 h3 h4 r
   induction ms generalizing fs with
   | nil=>cases fs with | nil=>trivial | cons _ _=>exact h1.elim
   | cons m ms ih=>cases fs with
    | nil=>exact h1.elim
    | cons f fs=>exact ⟨let ⟨a,o,xs,n,e,ho,z⟩:=h1.1; ⟨a,o,xs,n,e,k a o ho,z⟩,ih fs h1.2⟩
  refine kat_kind (T:=.type "int") t (by rw [h3]; exact Nat.lt_of_lt_of_le (by decide) h2) (fun v hv=>?_) rfl ⟨rfl,rfl⟩
  obtain ⟨i,tk,rfl⟩:=h4 v hv
  exact fun A Q E s _ q=>wpAny_pure q
 ·obtain ⟨a,b,c,rfl⟩:=h v hv
  obtain ⟨a',b',c',rfl⟩:=h v' hv'
  obtain ⟨ad,o,t,p,n,rfl,ho,_,hd,r1⟩:=xF q
  obtain ⟨ad',o',t',p',n',rfl,ho',_,hd',r2⟩:=xF q'
  obtain ⟨x1,x2,x3,x4,x5,e,y1,y2,y3⟩:=sw r1
  obtain ⟨z1,z2,z3,z4,z5,e',w1,w2,w3⟩:=sw r2
  cases e; cases e'
  have k1:IsTupleKey (intKind C.prog C.w) s'.heap [b,c] p:=⟨x2,_,x5,k _ _ y1,y2,y3,.cons (intKind_is _ _ b x3) (.cons (intKind_is _ _ c x4) .nil)⟩
  have k2:IsTupleKey (intKind C.prog C.w) s'.heap [b',c'] p':=⟨z2,_,z5,k _ _ w1,w2,w3,.cons (intKind_is _ _ b' z3) (.cons (intKind_is _ _ c' z4) .nil)⟩
  rw [dy,← decide_not] at hQ
  refine kat_lt (k _ _ ho) hd (k _ _ ho') hd' (kat_cons (wpAny_eqBool_int (kat_go (fun e=>kat_yes (kat_cons (wpAny_eqBool_tuple hu k1 k2 (kat_go (fun e'=>kat_yes (kat_nil ?_)) fun e'=>kat_no (kat_one _ _ (xE hu (k _ _ y1) y2 y3 (k _ _ w1) w2 w3 ?_)))))) fun e=>kat_no (oneLt_int ?_))))
  ·have h2:=of_decide_eq_true e'
   cases h2
   rwa [decide_eq_false (fun z=>z (.inr ⟨(beq_iff_eq.mp e).symm,.inr ⟨rfl,Int.le_refl _⟩⟩))] at hQ
  ·show Q (decide (b < b'∨b=b'∧c < c')) s'
   have h2: ¬ (b=b'∧c=c'):=fun z=>of_decide_eq_false e' (by rw [z.1,z.2])
   refine cast (congrArg (fun z=>Q z s') (decide_eq_decide.mpr (qT (beq_iff_eq.mp e) ?_))) hQ
   by_cases z:b=b'
   ·rw [qT z Int.not_le]
    exact ⟨fun q=>.inr ⟨z,q⟩,fun q=>q.elim (fun q=>absurd q (z▸Int.lt_irrefl _)) (·.2)⟩
   ·rw [qS z]
    exact ⟨.inl,fun q=>q.elim id fun q=>absurd q.1 z⟩
  ·rwa [decide_eq_decide.mpr (qS (beq_eq_false_iff_ne.mp e))] at hQ
end
end
noncomputable section
open PySem PyProof.Rows PySem.W
section
variable {C:Cx} {s:Shared} {ρ:List Addr} {N:Addr→Prop}
theorem md {A:Around} {E:Value→Shared→Prop} {a:Addr} {xs ys:List V} {ms:List Value} (hl:s.heap.PlainList a ms.toArray) (r:aI s.heap ρ N xs ms) (hu:A.units+2 < cLine) (hk:ee xs) (hlen:xs.length≤1000000) (hp:ys.Perm xs) (hs:ys.Pairwise fun a b=>leV a b=true):
  wpAny C.M A (call (.builtin "sorted") [.ref a]) (cw s ρ N ys) E s:=by
 cases hk with
 | nums h=>exact cA (dU hl r hlen) hu (fun _ r=>oS r h) hlen hp hs
 | txts h=>exact cA (dU hl r hlen) hu (fun _ r=>oQ r h) hlen hp hs
 | duos h=>exact cA (dU hl r hlen) hu (fun _ r=>qo r h) hlen hp hs
 | trip h=>exact cA (dU hl r hlen) hu (fun _ r=>qn r h) hlen hp hs
end
end
noncomputable section
open PySem PyProof.Rows
variable {γ:Gh}
section
variable {C:Cx} {k:Nat} {sc:Scope} {env:Env} {A:Around} {ρ₀:List Addr} {st₀:St} {s₀:Shared} {ρ:List Addr} {st:St} {s:Shared} {X:String→St→Prop}
theorem jQ {f:String} {p:Pos} {Q:Value→Shared→Prop} {E:Value→Shared→Prop} (I:Inv C γ ρ st.H s) (F:Fra γ env st ρ s) (hf:f∈bltNames) (hk:ce env.scope f=true) (h:Q (fc f) s):
  wpAny C.M A (eval (.Name (f:Str) p) env) Q E s:=by
 simp only [ce,Bool.and_eq_true,beq_iff_eq,Bool.not_eq_true',kd] at hk
 exact Calls.Name_function_global F.kind hk.1 (Calls.loadGlobal_builtin (mg:=C.mg) (mb:=C.mb) (by rw [F.glob]; exact C.g.keeps I.base) (C.blts f hf).1 (by rw [F.blt]; exact C.b.keeps I.base) (C.blts f hf).2 h) hk.2
theorem gA {c:String} {p:Pos} {cls:Addr} {Q:Value→Shared→Prop} {E:Value→Shared→Prop} (I:Inv C γ ρ st.H s) (F:Fra γ env st ρ s) (hc:C.mg c=some (.ref cls)) (hk:ce env.scope c=true) (h:Q (.ref cls) s):
  wpAny C.M A (eval (.Name (c:Str) p) env) Q E s:=by
 simp only [ce,Bool.and_eq_true,beq_iff_eq,Bool.not_eq_true',kd] at hk
 exact Calls.Name_function_global F.kind hk.1 (Calls.loadGlobal_global (mg:=C.mg) (by rw [F.glob]; exact C.g.keeps I.base) hc h) hk.2
theorem bR {f:Value} {es:Es} {pes:List Expr} {pos:Pos} {W:List V→St→Prop} {K:Args→Shared→Prop} (ih:SEs C k sc es pes) (hs:env.scope=sc) (hr:bO (2*k+1) A γ) (a:At C γ env ρ₀ st₀ s₀ ρ st s) (w:wEs (Calls C k) C.glo es st W X)
  (h: ∀ ms s' vs st' ρ',ms.length=pes.length→W vs st'→aI s'.heap ρ' (Nl γ ρ' st'.H) vs ms→At C γ env ρ₀ st₀ s₀ ρ' st' s'→Stp ρ st.H s ρ' st'.H s'→K ⟨ms,[]⟩ s'):wpAny C.M A (evalArgs f true (backTo pos (starEach pes env)) []) K (bA C γ ρ₀ st₀ s₀ X) s:=by
 cases pes with
 | nil=>
  have key:=ih.at (pos:=pos) (K:=fun ms s'=>ms=[]∧K ⟨ms,[]⟩ s') hs hr a w fun ms s' vs st' ρ' hl a1 a2 a3 a4=>⟨List.eq_nil_of_length_eq_zero hl,h ms s' vs st' ρ' hl a1 a2 a3 a4⟩
  show wpAny _ _ (evalArgs f true [] []) _ _ s
  unfold evalArgs
  show wpAny _ A (spliced [] >>= _) _ _ s
  refine wpAny_bind (wpAny_mono key (fun vs s' q=>?_) fun _ _ x=>x)
  obtain ⟨rfl,q⟩:=q
  refine wpAny_bind (wpAny_pure (wpAny_holding ?_))
  exact wpAny_bind (wpAny_pure (wpAny_bind (wpAny_pure (wpAny_pure q))))
 | cons p r=>
  have key:=ih.at (pos:=pos) hs hr a w h
  rw [cT (ih.1 p List.mem_cons_self)] at key ⊢
  exact Calls.evalArgs_plain key
theorem vz {f:String} {es:Es} {pes:List Expr} {p q:Pos} (hf:f∈C.fns) (hk:ce sc f=true) (hne:pes≠[]) (hes:SEs C k sc es pes):SE C k sc (.call f es) (.Call (.Name (f:Str) p) pes [] q):=fun env A s γ ρ st Q X hs hr I F w=>by
 obtain ⟨fa,o,fd,hfa,h1,h2,h3⟩:=C.hfns f hf
 refine Call_ (gA I F h1 (hs▸hk) (Calls.callWith_function (o:=o) (fd:=fd) (bR hes hs hr (At.start I F) w fun ms s₁ vs st₁ ρ₁ hn w₁ r₁ a₁ S₁=>⟨⟨a₁.inv.base _ _ h2,h3⟩,?_⟩)))
 rcases w₁ with ⟨v,H',hc,hQ⟩ | ⟨c,H',hc,hX⟩
 ·refine wpAny_call (codeAny_mono (hc A s₁ γ ρ₁ ms fa (hr.mono (Nat.le_succ _)) a₁.inv r₁ hfa) fun res s' p=>?_)
  cases res with
  | error e=>exact p.elim
  | ok fl=>
   cases fl<;>first | exact p.elim | skip
   obtain ⟨ρ',p1,p2,p3⟩:=p
   exact ⟨v,_,ρ',hQ,a₁.same,p1,p2,a₁.stp.trans p3⟩
 ·refine wpAny_call (codeAny_mono (hc A s₁ γ ρ₁ ms fa (hr.mono (Nat.le_succ _)) a₁.inv r₁ hfa) fun res s' p=>?_)
  cases res with
  | ok fl=>cases fl<;>exact p.elim
  | error e=>
   obtain ⟨ρ',p1,p2,p3⟩:=p
   exact ⟨c,_,ρ',hX,a₁.same,p1.back (a₁.stp.back a₁.inv),p2,a₁.stp.trans p3⟩
theorem tR {t:String} (ht:t∈tyNames):t∈bltNames∧fc t=.type t:=by
 simp only [tyNames,List.mem_cons,List.not_mem_nil,or_false] at ht
 rcases ht with rfl | rfl | rfl | rfl | rfl<;>decide
theorem uf {a:E} {pa pt:Expr} {p q:Pos} {W:V→St→Prop} {Q:V→St→Prop} {d:Value} (hk:ce sc "isinstance" =true) (hh:bq pa=true) (hpt:bq pt=true) (ha:SE C k sc a pa) (hs:env.scope=sc) (hr:bO (2*k+1) A γ) (I:Inv C γ ρ st.H s) (F:Fra γ env st ρ s) (w:wE (Calls C k) C.glo a st W X)
  (hn: ∀ {Q E:Value→Shared→Prop} {ρ st s},Inv C γ ρ st.H s→Fra γ env st ρ s→Q d s→wpAny C.M A (eval pt env) Q E s)
  (h: ∀ mv s' v st' ρ',W v st'→Rel s'.heap ρ' (Nl γ ρ' st'.H) v mv→At C γ env ρ st s ρ' st' s'→∃ b,Q (.bool b) st'∧wpAny C.M A (call (.builtin "isinstance") [mv,d]) (mV s' fun mv=>Rel s'.heap ρ' (Nl γ ρ' st'.H) (.bool b) mv) (bA C γ ρ st s X) s'):
  wpAny C.M A (eval (.Call (.Name ("isinstance" :String) p) [pa,pt] [] q) env) (ek C γ ρ st s Q) (bA C γ ρ st s X) s:=by
 refine Call_ (jQ I F (f:= "isinstance") (by decide) (hs▸hk) ?_)
 show wpAny C.M A (callWith q (.builtin "isinstance") [] _ []) _ _ s
 refine callWith_builtin1 (args_cons (ha.at hs hr (At.start I F) w fun mv s₁ v st₁ ρ₁ w₁ r₁ a₁ S₁=>args_cons (hn a₁.inv a₁.fra (args_nil ?_)) (cT hpt)) (cT hh)) (cT hh) (by rw [cT hpt]; rfl)
 obtain ⟨b,hQ,x⟩:=h mv s₁ v st₁ ρ₁ w₁ r₁ a₁
 exact wpAny_mono x (fun _ _ p=>a₁.sameP hQ p) fun _ _ x=>x
theorem ya {a:E} {t:String} {pa:Expr} {p p' q:Pos} (hk:ce sc "isinstance" =true) (ht:t∈tyNames) (hk':ce sc t=true) (hh:bq pa=true) (ha:SE C k sc a pa):SE C k sc (.isi a t) (.Call (.Name ("isinstance" :String) p) [pa,.Name (t:Str) p'] [] q):=fun env A s γ ρ st Q X hs hr I F w=>
 uf hk hh rfl ha hs hr I F w (fun I F h=>jQ I F (tR ht).1 (hs▸hk') ((tR ht).2▸h)) fun mv s' v st' ρ' w' r' a'=>by
  obtain ⟨X,e,hQ⟩:=w'
  exact ⟨_,hQ,ta a'.inv ht e r'⟩
theorem aI.one_inv {h:Heap} {N:Addr→Prop} {v:V} {ms:List Value} (r:aI h ρ N [v] ms): ∃ m,ms=[m]∧Rel h ρ N v m:=by
 obtain ⟨m,r',rfl,h1,h2⟩:=r.cons_inv
 rw [h2.nil_inv]; exact ⟨m,rfl,h1⟩
theorem rM {h:Heap} {N:Addr→Prop} {prog:Program} {w:World} {kvs:List (List Nat×V)} {ms:List (Str×Value)} (r:fY h ρ N sOf kvs ms):(∀ p∈kvs,p.1.length≤ay∧∀ c∈p.1,c < 128)→∀ vs:List Value,vs.length=ms.length→
  (∀ (j:Nat) v,vs[j]?= some v→∃ k x,ms[j]?= some (k,x)∧(strKind prog w).is k v=true)→aI h ρ N (kvs.map fun p=>V.str p.1) vs:=by
 induction r with
 | nil=>intro _ vs hl _; rw [List.eq_nil_of_length_eq_zero hl]; exact .nil
 | @cons k v kvs mv ms a _ ih=>
  intro hk vs hl hv
  cases vs with
  | nil=>cases hl
  | cons u vs=>
   obtain ⟨k',x,e1,e2⟩:=hv 0 u rfl
   cases e1
   obtain ⟨t,rfl⟩:=Value.isStrOf_shape e2
   obtain ⟨z1,z2⟩:=hk _ List.mem_cons_self
   exact .cons (.str t z1 z2) (ih (fun p hp=>hk p (List.mem_cons_of_mem _ hp)) vs (Nat.succ.inj hl) fun j w hw=>hv (j+1) w hw)
theorem sY {Ex:Value→Shared→Prop} {b:Addr} {ns:List Int} {ms:List Value} {m:Int} {Q:Value→Shared→Prop} (hh:A.handled=none) (hl:s.heap.PlainList b ms.toArray) (r:aI s.heap ρ (Nl γ ρ st.H) (ns.map .int) ms) (hm:m∈ns) (hmax: ∀ n∈ns,n≤m)
  (h: ∀ t h' tk,(∀ b o,s.heap.get? b=some o→h'.get? b=some o)→Q (.int m t) { s with heap:=h',toks:=tk }):wpAny C.M A (call (.builtin "max") [.ref b]) Q Ex s:=by
 have key: ∀ (ns:List Int) (ms:List Value),aI s.heap ρ (Nl γ ρ st.H) (ns.map .int) ms→∃ xs:List (Int×Tok),ms=xs.map (fun p=>Value.int p.1 p.2)∧xs.map (·.1)=ns:=by
  intro ns
  induction ns with
  | nil=>intro ms r; rw [r.nil_inv]; exact ⟨[],rfl,rfl⟩
  | cons n ns ih=>
   intro ms r
   obtain ⟨m,r',rfl,q1,q2⟩:=aI.cons_inv (v:=.int n) r
   obtain ⟨t,rfl⟩:=q1.int_inv
   obtain ⟨xs,rfl,rfl⟩:=ih r' q2
   exact ⟨(n,t)::xs,rfl,rfl⟩
 obtain ⟨xs,rfl,rfl⟩:=key ns ms r
 have hz:0 < xs.length:=by cases xs with
  | nil=>cases hm
  | cons _ _=>exact Nat.succ_pos _
 refine max_intList (xs:=xs.toArray) hh (by have:=hl.isList; simpa [intItems] using this) (by simpa using hz) fun v h' tk e k=>?_
 obtain ⟨t,rfl⟩:=intItems_at e
 obtain ⟨b1,b2⟩:=argBest_gt (numAt xs.toArray) (xs.toArray.size - 1)
 have at_: ∀ i,(hi:i < xs.length)→numAt xs.toArray i=(xs[i]).1:=fun i hi=>by simp [numAt,hi]
 rw [List.size_toArray] at b1 b2
 have lt:argBest (fun i j=>decide (numAt xs.toArray i > numAt xs.toArray j)) (xs.length - 1) < xs.length:=by exact li [_,_,_] [([1],[3]),([3,0],[2])] [1,0] [2] rfl b1 (l_d (lin [_] [(1,.a (.n 0) (.n 1),.v 0)] 1 (.n 1) (.v 0) rfl hz))
 have e2:numAt xs.toArray (argBest (fun i j=>decide (numAt xs.toArray i > numAt xs.toArray j)) (xs.toArray.size - 1))=m:=by
  rw [List.size_toArray]
  refine Int.le_antisymm ?_ ?_
  ·rw [at_ _ lt]; exact hmax _ (List.mem_map.mpr ⟨_,List.getElem_mem lt,rfl⟩)
  ·obtain ⟨p,h1,rfl⟩:=List.mem_map.mp hm
   obtain ⟨j,hj,rfl⟩:=List.getElem_of_mem h1
   rw [← at_ j hj]; exact b2 j (by exact li [j,_,_] [([1,0],[3]),([3],[2,0])] [1] [2] rfl hj (l_g _ _))
 rw [e2]
 exact h t h' tk k
theorem td {f:BN} {vs:List V} {ms:List Value} {Q:V→St→Prop} (hr:bO (2*k+1) A γ) (a:At C γ env ρ₀ st₀ s₀ ρ st s) (r:aI s.heap ρ (Nl γ ρ st.H) vs ms) (w:CO f vs st Q):
  wpAny C.M A (call (fc f.name) ms) (ek C γ ρ₀ st₀ s₀ Q) (bA C γ ρ₀ st₀ s₀ X) s:=by
 have hu2:A.units+2 < cLine:=Nat.lt_of_le_of_lt (Nat.add_le_add_left (by lia:2≤4*(2*k+1)) _) (Nat.lt_trans hr.units (by decide))
 rcases w with ⟨v,e,w⟩ | ⟨xs,e,w⟩
 ·cases e with
  | len e=>
   obtain ⟨m,rfl,r1⟩:=r.one_inv
   exact wpAny_mono (sZ a.inv e r1) (fun _ _ p=>a.sameP w p) fun _ _ x=>x
  | str h=>
   obtain ⟨m,rfl,r1⟩:=r.one_inv
   obtain ⟨t,rfl⟩:=r1.int_inv
   exact wpAny_mono (lZ (ρ:=ρ) (H:=st.H) h) (fun _ _ p=>a.sameP w p) fun _ _ x=>x
  | int b=>
   obtain ⟨m,rfl,r1⟩:=r.one_inv
   obtain rfl:=r1.bool_inv
   exact wpAny_mono (kK (ρ:=ρ) (H:=st.H)) (fun _ _ p=>a.sameP w p) fun _ _ x=>x
  | @intT cs hd hne hl=>
   obtain ⟨m,rfl,r1⟩:=r.one_inv
   obtain ⟨t,rfl,_⟩:=r1.str_inv
   exact PySem.W.KIN.call_text (PySem.intText_digits (x:=sOf cs) hd hne (by rw [bw]; exact lin [_] [(1,.v 0,.n 300)] 1 (.v 0) (.n 4300) rfl hl)) (by rw [bw]; exact lin [_] [(1,.v 0,.n 300)] 1 (.v 0) (.n 640) rfl hl) (a.sameP w ⟨Rel.int _ _,_,rfl⟩)
  | @intN cs hd hne hl=>
   obtain ⟨m,rfl,r1⟩:=r.one_inv
   obtain ⟨t,rfl,_⟩:=r1.str_inv
   exact PySem.W.KIN.call_text (PySem.intText_neg (x:=sOf (45::cs)) (cs:=cs) (by simp) hd hne (by rw [bw,List.length_cons]; exact lin [_] [(1,.v 0,.n 300)] 1 (.a (.v 0) (.n 1)) (.n 4300) rfl hl)) (by rw [bw,List.length_cons]; exact lin [_] [(1,.v 0,.n 300)] 1 (.a (.v 0) (.n 1)) (.n 640) rfl hl) (a.sameP w ⟨Rel.int _ _,_,rfl⟩)
  | @max1 _ ns m hz e hm hmax=>
   obtain ⟨mv,rfl,r1⟩:=r.one_inv
   obtain ⟨b,ms,rfl,hl,hrr,_⟩:=a.inv.view r1 e
   exact sY (hr.handled a.inv hz) hl hrr hm hmax fun t h' tk k=>(a.grew (s':={ s with heap:=h',toks:=tk }) ⟨k,rfl,rfl⟩).post w (.int m t)
  | min2 x y hz=>
   obtain ⟨m,r',rfl,q1,r2⟩:=r.cons_inv
   obtain ⟨m',rfl,q2⟩:=r2.one_inv
   obtain ⟨t,rfl⟩:=q1.int_inv
   obtain ⟨u,rfl⟩:=q2.int_inv
   refine min_two_ints (hr.handled a.inv hz) fun h' tk k=>(a.grew (s':={ s with heap:=h',toks:=tk }) ⟨k,rfl,rfl⟩).post w ?_
   by_cases h:y < x
   ·rw [if_pos h,show min x y=y by lia]; exact .int _ _
   ·rw [if_neg h,show min x y=x by lia]; exact .int _ _
  | range1 b=>
   obtain ⟨m,rfl,r1⟩:=r.one_inv
   obtain ⟨t,rfl⟩:=r1.int_inv
   exact wpAny_mono (mf a.inv) (fun _ _ p=>a.grewP w p) fun _ _ x=>x
  | range2 _ _=>
   obtain ⟨m,r',rfl,q1,r2⟩:=r.cons_inv
   obtain ⟨m',rfl,q2⟩:=r2.one_inv
   obtain ⟨t,rfl⟩:=q1.int_inv
   obtain ⟨u,rfl⟩:=q2.int_inv
   exact wpAny_mono (me a.inv) (fun _ _ p=>a.grewP w p) fun _ _ x=>x
 ·cases e with
  | list e=>
   obtain ⟨m,rfl,r1⟩:=r.one_inv
   obtain ⟨b,ms,rfl,hl,hrr,hlen⟩:=a.inv.view r1 e
   exact wpAny_mono (mj hl hrr hlen) (fun _ _ p=>a.newP w p) fun _ _ x=>x
  | @listS i kvs hz h=>
   obtain ⟨m,rfl,r1⟩:=r.one_inv
   obtain ⟨d,rfl,hd⟩:=r1.loc_inv
   obtain ⟨ms,hD,hrr,⟨hl,hm⟩,hk⟩:=a.inv.obj _ d _ hd h
   obtain ⟨ep,hat⟩:=hD.dictAt
   refine PySem.W.kdl_call (PySem.W.kdl_dict (knd:=strKind C.prog C.w) (kvs:=ms) (ep:=ep) (beq_eq_false_iff_ne.mpr hm)) (hr.handled a.inv hz) hat (by rw [← hrr.length]; exact hl) fun h' tk acc c k ho it=>?_
   refine a.newP w ⟨s.heap.objs.size,acc.toList,rfl,aJ _,⟨k,rfl,rfl⟩,⟨c,by simpa using ho⟩,rM hrr hk acc.toList (by rw [Array.length_toList]; exact it.1) fun j v e=>it.2 j v (by rw [← Array.getElem?_toList]; exact e),by rw [List.length_map]; exact hl⟩
  | sorted e hk hlen hp hs=>
   obtain ⟨m,rfl,r1⟩:=r.one_inv
   obtain ⟨b,ms,rfl,hl,hrr,_⟩:=a.inv.view r1 e
   exact wpAny_mono (md hl hrr hu2 hk hlen hp hs) (fun _ _ p=>a.newP w p) fun _ _ x=>x
theorem zz (f:BN):f.name∈bltNames:=by cases f<;>decide
theorem yf {f:BN} {es:Es} {pes:List Expr} {p q:Pos} (hk:ce sc f.name=true) (hne:pes≠[]) (hes:SEs C k sc es pes):SE C k sc (.blt f es) (.Call (.Name (f.name:Str) p) pes [] q):=fun env A s γ ρ st Q X hs hr I F w=>by
 refine Call_ (jQ I F (zz f) (hs▸hk) ?_)
 have key: ∀ f',wpAny C.M A (evalArgs f' true (backTo q (starEach pes env)) []) (fun a s₁=>wpAny C.M A (call (fc f.name) ([]++a.pos) a.kw) (ek C γ ρ st s Q) (bA C γ ρ st s X) s₁) (bA C γ ρ st s X) s:=
  fun f'=>bR hes hs hr (At.start I F) w fun ms s₁ vs st₁ ρ₁ hn w₁ r₁ a₁ S₁=>td hr a₁ r₁ w₁
 have two:(∃ g,fc f.name=.builtin g)∨∃ g,fc f.name=.type g:=by
  unfold fc
  by_cases h:["len", "isinstance", "sorted", "max", "min"].contains f.name=true
  ·rw [if_pos h]; exact .inl ⟨_,rfl⟩
  ·rw [if_neg h]; exact .inr ⟨_,rfl⟩
 rcases two with ⟨g,e⟩ | ⟨g,e⟩
 ·rw [e] at key ⊢
  exact Calls.callWith_builtin (cU hes.1) (key _)
 ·rw [e] at key ⊢
  exact PySem.callWith_type (cU hes.1) (key _)
end
end
noncomputable section
open PySem PyProof.Rows
variable {γ:Gh}
theorem Inv.upd {C:Cx} {ρ:List Addr} {H:List HO} {s s':Shared} {i:Nat} {a:Addr} {o o':HO} (I:Inv C γ ρ H s) (ha:ρ[i]?= some a) (hH:H[i]?= some o) (hl:o.isLive=true) (hl':o'.isLive=true)
  (sb: ∀ b,b≠a→s'.heap.get? b=s.heap.get? b) (ht: ∃ x,s'.heap.get? a=some x) (hg:s'.gens=s.gens) (hos:s'.os=s.os)
  (r:cG s.heap ρ (Nl γ ρ H) s'.heap ρ (Nl γ ρ (H.set i o'))→tO C s'.heap ρ (Nl γ ρ (H.set i o')) o' a):Inv C γ ρ (H.set i o') s'∧Stp ρ H s ρ (H.set i o') s':=by
 have live:Lv ρ H a:=⟨i,o,ha,hH,hl⟩
 have na: ¬ γ.h a:=I.live_nh live
 have lv: ∀ b,Lv ρ (H.set i o') b→Lv ρ H b:=fun b ⟨j,x,h1,h2,h3⟩=>by
  rcases bk h2 with ⟨rfl,_,_⟩ | ⟨_,h2⟩
  ·rw [ha] at h1; cases h1; exact live
  ·exact ⟨j,x,h1,h2,h3⟩
 have kp:cG s.heap ρ (Lv ρ H) s'.heap ρ (Lv ρ (H.set i o')):=
  ⟨fun b x e n=>⟨x,(sb b (fun q=>n (q▸live))).trans e,.refl x⟩,fun b q=>.inl (lv b q),fun _ _ e=>e⟩
 refine ⟨⟨fun b x e=>(sb b fun q=>?_).trans (I.base b x e),by rw [List.length_set]; exact I.len,I.nodup,I.fresh,fun b hb=>?_,fun j b x e1 e2=>?_,I.apart,?_,fun b q=>?_,I.off,(fun b q=>let ⟨x,es,n,e,d⟩:=I.frm b q; ⟨x,es,n,(sb b fun z=>na (z▸γ.fh b q)).trans e,d⟩),I.hdl' kp,(fun z=>I.hq (dZ hH (wi hl) z)),hg.trans I.gens,hos.trans I.os⟩,⟨kp⟩⟩
 ·rw [q,I.fresh a (List.mem_of_getElem? ha)] at e; cases e
 ·by_cases q:b=a
  ·rw [q]; exact ht
  ·obtain ⟨x,hx⟩:=I.there b hb; exact ⟨x,(sb b q).trans hx⟩
 ·rcases bk e2 with ⟨rfl,rfl,_⟩ | ⟨ne,e2⟩
  ·rw [ha] at e1; cases e1; exact r kp.gh
  ·exact (I.obj j b x e1 e2).kept kp.gh fun y hy=>(sb b fun q=>ne (eV I.nodup ha (q▸e1))).trans hy
 ·intro j b x e1 q e2
  rcases bk e2 with ⟨rfl,_,_⟩ | ⟨_,e2⟩
  ·rw [ha] at e1; cases e1; exact absurd (γ.bh _ q) na
  ·exact I.bor j b x e1 q e2
 ·obtain ⟨x,hx⟩:=I.held b q
  exact ⟨x,(sb b fun e=>na (e▸q)).trans hx⟩
section
variable {C:Cx} {k:Nat} {sc:Scope} {env:Env} {A:Around} {ρ₀:List Addr} {st₀:St} {s₀:Shared} {ρ:List Addr} {st:St} {s:Shared} {X:String→St→Prop}
theorem mm {i:Nat} {xs:List V} {v:V} {m mv:Value} {Q:V→St→Prop} (at_:At C γ env ρ₀ st₀ s₀ ρ st s) (ro:Rel s.heap ρ (Nl γ ρ st.H) (.loc i) m) (hH:st.H[i]?= some (.list xs)) (r:Rel s.heap ρ (Nl γ ρ st.H) v mv) (hl:xs.length < 16000000)
  (w:Q .none ⟨st.s,st.H.set i (.list (xs++[v]))⟩):wpAny C.M A (call (.builtin "list.append") [m,mv]) (ek C γ ρ₀ st₀ s₀ Q) (bA C γ ρ₀ st₀ s₀ X) s:=by
 obtain ⟨a,rfl,ha⟩:=ro.loc_inv
 obtain ⟨ms,hp,hr,hlen⟩:=at_.inv.obj i _ _ ha hH
 refine wpAny_list_append_plain hp (fun h' hp' sb=>?_) (by rw [bi,List.size_toArray,← hr.length]; exact hlen)
 obtain ⟨I',S'⟩:=at_.inv.upd (s':={ s with heap:=h' }) (o':=.list (xs++[v])) ha hH rfl rfl sb.2 (cc hp') rfl rfl fun kp=>
  ⟨ms++[mv],by simpa using hp',(hr.kept kp).append (.cons (r.kept kp) .nil),by rw [List.length_append]; unfold ay; exact Nat.le_trans (Nat.succ_le_of_lt hl) (by decide)⟩
 exact ⟨_,_,ρ,w,at_.same,.none,I',at_.stp.trans S'⟩
theorem iS (a b:List Nat):Txt.startswith ⟨a.toArray⟩ ⟨b.toArray⟩=b.isPrefixOf a:=by
 unfold Txt.startswith
 rw [StrLaws.subAt_eq,bw,bw,Bool.eq_iff_iff]
 simp only [Bool.and_eq_true,decide_eq_true_eq,beq_iff_eq,List.drop_zero,List.isPrefixOf_iff_prefix]
 constructor
 ·rintro ⟨_,h⟩
  rw [← h]; exact List.take_prefix _ _
 ·intro h
  exact ⟨by have:=h.length_le; exact lin [_,_] [(1,.v 0,.v 1)] 1 (.a (.n 0) (.v 0)) (.v 1) rfl this,(List.prefix_iff_eq_take.mp h).symm⟩
theorem mS {pe:Expr} {name:Str} {env:Env} {whole:Sem Value} (h:bq pe=true):attributeBase pe name env whole=whole:=by
 cases pe<;>first | rfl | skip
 rename_i f es kw p
 cases es with
 | nil=>cases f<;>first | rfl | cases h
 | cons _ _=>cases f<;>rfl
noncomputable def MN.id (m:MN):String:=MN.rec "list.append" "str.startswith" "list.pop" "list.index" "str.split" "str.join" "dict.get" "list.extend" m
theorem oO {h:Heap} {N:Addr→Prop} (ss:List (List Nat)): ∀ {ms:List Value},aI h ρ N (ss.map .str) ms→StrsAre ms (ss.map sOf)∧(∀ s∈ss,s.length≤ay∧∀ c∈s,c < 128):=by
 induction ss with
 | nil=>intro ms r; rw [r.nil_inv]; exact ⟨.nil,fun _ h=>absurd h List.not_mem_nil⟩
 | cons x ss ih=>
  intro ms r
  obtain ⟨m,r',rfl,q1,q2⟩:=aI.cons_inv (v:=.str x) r
  obtain ⟨t,rfl,h1,h2⟩:=q1.str_inv
  obtain ⟨i1,i2⟩:=ih q2
  refine ⟨.cons _ t i1,fun s hs=>?_⟩
  rcases List.mem_cons.mp hs with rfl | hs
  ·exact ⟨h1,h2⟩
  ·exact i2 s hs
theorem jd (a b:List Nat):sOf a++sOf b=sOf (a++b):=dn a b
theorem jj (sep:List Nat) (ss:List (List Nat)):Str.join (sOf sep) (ss.map sOf)=sOf (bf sep ss):=by
 induction ss with
 | nil=>rfl
 | cons p ss ih=>
  cases ss with
  | nil=>rw [bf]; show sOf p=_; rw [List.flatMap_nil,List.append_nil]
  | cons q ss=>
   rw [cM,← jd,← jd,← ih]
   show sOf p++sOf sep++Str.join (sOf sep) ((q::ss).map sOf)=_
   rw [Str.append_assoc]
theorem lR {x:List Nat} {c:Nat} {ps:List (List Nat)} (hne:ps≠[]) (hj:bf [c] ps=x) (hf: ∀ p∈ps,c ∉ p):Txt.split (sOf x) ⟨#[c]⟩=ps.map sOf:=by
 have back: ∀ l:List Str,l=(l.map fun y=>y.cps.toList).map sOf:=fun l=>by
  rw [List.map_map]
  exact (List.map_id l).symm.trans (List.map_congr_left fun y _=>rfl)
 have h1:=StrLaws.join_split (sOf x) ⟨#[c]⟩
 have h2:=StrLaws.split_free (sOf x) c
 have hl0:Txt.split (sOf x) ⟨#[c]⟩≠[]:=fun e=>by
  rw [e] at h1
  have e1:x=[]:=jK _ _ h1.symm
  subst e1
  rw [Txt.split,if_pos (by simp [Str.length])] at e
  cases e
 generalize Txt.split (sOf x) ⟨#[c]⟩=l at h1 h2 hl0
 rw [back l]
 refine congrArg _ (rg _ _ (fun e=>hl0 (List.map_eq_nil_iff.mp e)) hne (fun p hp=>?_) hf ?_)
 ·obtain ⟨y,hy,rfl⟩:=List.mem_map.mp hp
  exact h2 y hy
 ·rw [back l,show (⟨#[c]⟩:Str)=sOf [c] from rfl,jj] at h1
  rw [hj]; exact jK _ _ h1
theorem rf (sep:List Nat) (ss:List (List Nat)):(ss.map List.length).sum≤(bf sep ss).length:=by
 cases ss with
 | nil=>exact Nat.le_refl _
 | cons p ss=>
  rw [bf,List.length_append,List.map_cons,List.sum_cons]
  refine Nat.add_le_add_left ?_ _
  induction ss with
  | nil=>exact Nat.le_refl _
  | cons q ss ih=>
   rw [List.flatMap_cons,List.length_append,List.length_append,List.map_cons,List.sum_cons]
   exact li [_,_,_,_] [([2],[4])] [1,2] [3,1,4] rfl ih
theorem rc {sep:List Nat} {ss:List (List Nat)} {c:Nat} (h:c∈bf sep ss):c∈sep∨∃ s∈ss,c∈s:=by
 cases ss with
 | nil=>cases h
 | cons p ss=>
  rcases List.mem_append.mp h with h | h
  ·exact .inr ⟨p,List.mem_cons_self,h⟩
  ·obtain ⟨q,h1,h2⟩:=List.mem_flatMap.mp h
   rcases List.mem_append.mp h2 with h | h
   ·exact .inl h
   ·exact .inr ⟨q,List.mem_cons_of_mem _ h1,h⟩
theorem qH {Ex:Value→Shared→Prop} {N:Addr→Prop} {b:Addr} {sep:List Nat} {ss:List (List Nat)} {ns:List Value} {t:Tok} {Q:Value→Shared→Prop} (hl:s.heap.PlainList b ns.toArray) (r:aI s.heap ρ N (ss.map .str) ns)
  (hsz:(bf sep ss).length+(ss.length+1)*(sep.length+1)≤16000000) (hsep: ∀ c∈sep,c < 128) (h: ∀ t' tk,(∀ t',Rel s.heap ρ N (.str (bf sep ss)) (.str (sOf (bf sep ss)) t'))→Q (.str (sOf (bf sep ss)) t') { s with toks:=tk }):
  wpAny C.M A (call (.builtin "str.join") [.str (sOf sep) t,.ref b]) Q Ex s:=by
 obtain ⟨hS,hall⟩:=oO ss r
 have e1:((ss.map sOf).map (·.length)).sum=(ss.map List.length).sum:=by
  rw [List.map_map]; exact congrArg _ (List.map_congr_left fun x _=>bw x)
 have e2:=rf sep ss
 have e3:ss.length*sep.length≤(ss.length+1)*(sep.length+1):=Nat.mul_le_mul (Nat.le_succ _) (Nat.le_succ _)
 refine PyProof.Rows.join_list hl.isList (by simpa using hS) (by rw [e1,List.length_map,bw]; exact lin [_,_,_,_] [(1,.a (.v 2) (.v 3),.n 16000000),(1,.v 0,.v 2),(1,.v 1,.v 3)] 1 (.a (.v 0) (.v 1)) (.n 16777216) rfl hsz e2 e3) fun t' k=>?_
 have e4:Txt.join (sOf sep) (ss.map sOf)=sOf (bf sep ss):=(StrLaws.glued_eq_join _ _).trans (jj sep ss)
 rw [e4]
 refine h t' k fun t'=>.str t' (by unfold ay; exact lin [_,_] [(1,.a (.v 0) (.v 1),.n 16000000)] 1 (.v 0) (.n 16777216) rfl hsz) fun c hc=>?_
 rcases rc hc with h | ⟨x,h1,h2⟩
 ·exact hsep c h
 ·exact (hall x h1).2 c h2
theorem lP (xs:List Str): ∀ (tk:Nat) (j:Nat) (v:Value),(strsFrom tk xs)[j]?= some v→∃ y t,xs[j]?= some y∧v=.str y t:=by
 induction xs with
 | nil=>intro _ _ _ h; cases h
 | cons x xs ih=>
  intro tk j v h
  cases j with
  | zero=>cases h; exact ⟨x,tk,rfl,rfl⟩
  | succ j=>exact ih (tk+1) j v h
theorem oY {Ex:Value→Shared→Prop} {N:Addr→Prop} {x:List Nat} {c:Nat} {ps:List (List Nat)} {t u:Tok} (hx:x.length≤16000000) (hs: ∀ c∈x,c < 128) (hne:ps≠[]) (hj:bf [c] ps=x) (hf: ∀ p∈ps,c ∉ p):
  wpAny C.M A (call (.builtin "str.split") [.str (sOf x) t,.str (sOf [c]) u]) (cw s ρ N (ps.map .str)) Ex s:=by
 have e:=lR hne hj hf
 have len:ps.length≤x.length+1:=by
  rw [← hj]
  cases ps with
  | nil=>exact absurd rfl hne
  | cons p ps=>
   rw [bf,List.length_append,List.length_cons]
   have:ps.length≤(ps.flatMap fun q=>[c]++q).length:=by
    clear hne hj hf e
    induction ps with
    | nil=>exact Nat.le_refl _
    | cons q ps ih=>rw [List.flatMap_cons,List.length_append,List.length_append,List.length_cons,List.length_singleton]; exact li [_,_,_] [([1],[3])] [1,0] [0,2,3] rfl ih
   exact li [_,_,_] [([1],[3])] [1,0] [2,3,0] rfl this
 have small: ∀ p∈ps,p.length≤x.length∧∀ d∈p,d∈x:=fun p hp=>by
  rw [← hj]
  cases ps with
  | nil=>cases hp
  | cons p' ps=>
   rcases List.mem_cons.mp hp with rfl | hp
   ·exact ⟨by rw [bf,List.length_append]; exact li [_,_] [] [1] [1,2] rfl,fun d hd=>List.mem_append.mpr (.inl hd)⟩
   ·have key:p.length≤(ps.flatMap fun q=>[c]++q).length∧∀ d∈p,d∈ps.flatMap fun q=>[c]++q:=by
     obtain ⟨l,r,rfl⟩:=List.append_of_mem hp
     rw [List.flatMap_append,List.flatMap_cons]
     exact ⟨by simp only [List.length_append]; exact lin [_,_,_,_] [] 1 (.v 0) (.a (.v 1) (.a (.a (.v 2) (.v 0)) (.v 3))) rfl,fun d hd=>by simp [hd]⟩
    exact ⟨by rw [bf,List.length_append]; exact li [_,_,_] [([1],[3])] [1] [2,3] rfl key.1,fun d hd=>List.mem_append.mpr (.inr (key.2 d hd))⟩
 have rel: ∀ l:List Str,∀ qs:List (List Nat),l=qs.map sOf→(∀ p∈qs,p∈ps)→∀ vs:List Value,vs.length=l.length→(∀ (j:Nat) v,vs[j]?= some v→∃ y t,l[j]?= some y∧v=.str y t)→aI s.heap ρ N (qs.map .str) vs:=by
  intro l qs
  induction qs generalizing l with
  | nil=>intro e1 _ vs hl _; subst e1; rw [List.eq_nil_of_length_eq_zero hl]; exact .nil
  | cons q qs ih=>
   intro e1 hq vs hl hv
   subst e1
   cases vs with
   | nil=>cases hl
   | cons v vs=>
    obtain ⟨y,t',h1,rfl⟩:=hv 0 v rfl
    cases h1
    obtain ⟨z1,z2⟩:=small q (hq q List.mem_cons_self)
    exact .cons (.str t' (by unfold ay; exact lin [_,_] [(1,.v 1,.n 16000000),(1,.v 0,.v 1)] 1 (.v 0) (.n 16777216) rfl hx z1) fun d hd=>hs d (z2 d hd)) (ih _ rfl (fun p hp=>hq p (List.mem_cons_of_mem _ hp)) vs (Nat.succ.inj hl) fun j w hw=>hv (j+1) w hw)
 have mlen:(ps.map V.str).length≤ay:=by rw [List.length_map]; unfold ay; exact lin [_,_] [(1,.v 1,.n 16000000),(1,.v 0,.a (.v 1) (.n 1))] 1 (.v 0) (.n 16777216) rfl hx len
 have itself:Txt.split (sOf x) (sOf [c])=[sOf x]→cw s ρ N (ps.map .str) (.ref s.heap.objs.size) { s with heap:=s.heap.push { cls:=.type "list",data:=.seq #[.str (sOf x) t]}}:=fun q=>
  ⟨_,[.str (sOf x) t],rfl,aJ _,bP.push s _ s.toks,⟨0,Heap.get?_push_size _ rfl⟩,rel [sOf x] ps (q.symm.trans e) (fun _ h=>h) _ rfl (fun j v hv=>by
   cases j with
   | zero=>cases hv; exact ⟨_,t,rfl,rfl⟩
   | succ j=>cases hv),mlen⟩
 cases h1:(decide ((sOf x).length < (sOf [c]).length) || decide (Builtin.Str.strKind (sOf x) < Builtin.Str.strKind (sOf [c])))
 ·cases hf:(Builtin.Str.occurrences (sOf x) (sOf [c]) 0 (sOf x).length ((sOf x).length+1)).isEmpty
  ·have q:Txt.split (sOf x) (sOf [c])=Builtin.Str.partsBetween (sOf x) (Builtin.Str.occurrences (sOf x) (sOf [c]) 0 (sOf x).length ((sOf x).length+1)) (sOf [c]).length:=(if_neg (ne_true_of_eq_false h1)).trans (if_neg (ne_true_of_eq_false hf))
   have q':=q.symm.trans e
   refine call_meets F.slot_str_split (typeIs_str _ _ _) F.entry_str_split (F.args_str_split_2 _ _) (meets_str_split_sep (sOf x) (sOf [c]) t u h1 rfl hf (by rw [bw]; show x.length≤16777216; exact lin [_] [(1,.v 0,.n 16000000)] 1 (.v 0) (.n 16777216) rfl hx) (by rw [q',List.length_map]; show ps.length≤16777216; exact lin [_,_] [(1,.v 1,.n 16000000),(1,.v 0,.a (.v 1) (.n 1))] 1 (.v 0) (.n 16777216) rfl hx len)) ?_
   refine ⟨_,_,rfl,aJ _,bP.push s _ _,⟨0,Heap.get?_push_size _ rfl⟩,rel _ ps q' (fun _ h=>h) _ (strsFrom_length _ _) (fun j v hv=>lP _ _ j v hv),mlen⟩
  ·exact call_meets F.slot_str_split (typeIs_str _ _ _) F.entry_str_split (F.args_str_split_2 _ _) (meets_str_split_not_found (sOf x) (sOf [c]) t u h1 rfl hf) (itself ((if_neg (ne_true_of_eq_false h1)).trans (if_pos hf)))
 ·exact call_meets F.slot_str_split (typeIs_str _ _ _) F.entry_str_split (F.args_str_split_2 _ _) (meets_str_split_cannot_occur (sOf x) (sOf [c]) t u h1) (itself (if_pos h1))
theorem sX {i:Nat} {xs:List V} {v:V} {m:Value} {Q:V→St→Prop} (at_:At C γ env ρ₀ st₀ s₀ ρ st s) (ro:Rel s.heap ρ (Nl γ ρ st.H) (.loc i) m) (hH:st.H[i]?= some (.list (xs++[v])))
  (w:Q v ⟨st.s,st.H.set i (.list xs)⟩):wpAny C.M A (call (.builtin "list.pop") [m]) (ek C γ ρ₀ st₀ s₀ Q) (bA C γ ρ₀ st₀ s₀ X) s:=by
 obtain ⟨a,rfl,ha⟩:=ro.loc_inv
 obtain ⟨ms,hp,hr,hlen⟩:=at_.inv.obj i _ _ ha hH
 obtain ⟨ps,y,rfl,h1,h2⟩: ∃ ps y,ms=ps++[y]∧aI s.heap ρ (Nl γ ρ st.H) xs ps∧Rel s.heap ρ (Nl γ ρ st.H) v y:=by
  clear hp hlen w hH
  induction xs generalizing ms with
  | nil=>obtain ⟨y,rfl,q⟩:=hr.one_inv; exact ⟨[],y,rfl,.nil,q⟩
  | cons x xs ih=>
   obtain ⟨z,r',rfl,q1,q2⟩:=aI.cons_inv (vs:=xs++[v]) hr
   obtain ⟨ps,y,rfl,h1,h2⟩:=ih _ q2
   exact ⟨z::ps,y,rfl,.cons q1 h1,h2⟩
 obtain ⟨n,ho⟩:=hp
 have hk:(ps++[y]).toArray.size - 1=ps.length:=by rw [List.size_toArray,List.length_append]; rfl
 have hl:=hr.length
 rw [List.length_append,List.length_append,List.length_singleton,List.length_singleton] at hl
 rw [List.length_append,List.length_singleton] at hlen
 refine call_meets PySem.F.slot_list_pop ⟨_,ho,rfl⟩ PySem.F.entry_list_pop (PySem.F.args_list_pop_1 _) (PySem.MeetsSeq.list_pop_last a _ n y (by rw [hk]; simp) (by rw [List.size_toArray,List.length_append,List.length_singleton]; show _≤16777216; unfold ay at hlen; exact lin [_,_] [(1,.a (.v 1) (.n 1),.n 16777216),(1,.a (.v 0) (.n 1),.a (.v 1) (.n 1))] 1 (.a (.v 0) (.n 1)) (.n 16777216) rfl hlen (l_s hl))) ⟨ho,?_⟩
 have q:=PySem.IsL.update ho fun xs=>xs.eraseIdxIfInBounds ((ps++[y]).toArray.size - 1)
 rw [show (ps++[y]).toArray.eraseIdxIfInBounds ((ps++[y]).toArray.size - 1)=ps.toArray by rw [hk,PySem.W.kl_erase,List.append_nil]] at q
 obtain ⟨I',S'⟩:=at_.inv.upd (s':={ s with heap:=s.heap.update a (Obj.mapSeq fun xs=>xs.eraseIdxIfInBounds ((ps++[y]).toArray.size - 1))}) (o':=.list xs) ha hH rfl rfl (fun b hb=>Heap.get?_update_other _ _ (Ne.symm hb)) ⟨_,q⟩ rfl rfl fun kp=>
  ⟨ps,⟨_,q⟩,h1.kept kp,by exact li [_,_] [([1,0],[2])] [1] [2] rfl hlen⟩
 exact ⟨_,_,ρ,w,at_.same,h2.kept S'.kept,I',at_.stp.trans S'⟩
theorem tn {m:MN} {o:V} {mo:Value} {vs:List V} {ms:List Value} {Q:V→St→Prop} (hr:bO (2*k+1) A γ) (a:At C γ env ρ₀ st₀ s₀ ρ st s) (ro:Rel s.heap ρ (Nl γ ρ st.H) o mo) (r:aI s.heap ρ (Nl γ ρ st.H) vs ms) (w:CC m o vs st Q):
  wpAny C.M A (call (.builtin m.id) (mo::ms)) (ek C γ ρ₀ st₀ s₀ Q) (bA C γ ρ₀ st₀ s₀ X) s:=by
 rcases w with ⟨v,e,w⟩ | w
 ·cases e with
  | starts x y=>
   obtain ⟨m,rfl,r1⟩:=r.one_inv
   obtain ⟨t,rfl,_⟩:=ro.str_inv
   obtain ⟨u,rfl,_⟩:=r1.str_inv
   refine SC.startswith (a.post w ?_)
   rw [iS]; exact .bool _
  | join e hsz=>
   obtain ⟨m,rfl,r1⟩:=r.one_inv
   obtain ⟨t,rfl,hs1,hs2⟩:=ro.str_inv
   obtain ⟨b,ns,rfl,hl,hrr,hlen⟩:=a.inv.view r1 e
   exact qH hl hrr hsz hs2 fun t' tk rr=>a.sameP w ⟨rr t',tk,rfl⟩
 rcases w with ⟨i,xs,v,⟨rfl,rfl,rfl⟩,hH,hl,w⟩ | w
 ·obtain ⟨m,rfl,r1⟩:=r.one_inv
  exact mm a ro hH r1 hl w
 rcases w with ⟨i,xs,v,⟨rfl,rfl,rfl⟩,hH,w⟩ | w
 ·rw [r.nil_inv]
  exact sX a ro hH w
 rcases w with ⟨xs,e,w⟩ | w
 ·cases e with
  | split hx hne hj hf=>
   obtain ⟨m,rfl,r1⟩:=r.one_inv
   obtain ⟨t,rfl,hs1,hs2⟩:=ro.str_inv
   obtain ⟨u,rfl,_⟩:=r1.str_inv
   exact wpAny_mono (oY hx hs2 hne hj hf) (fun _ _ p=>a.newP w p) fun _ _ x=>x
 exact w.elim
theorem xZ {m:MN} {a:E} {es:Es} {pa:Expr} {pes:List Expr} {ap p:Pos} (hh:bq pa=true) (hlt:pes.length < 20) (hline:ap.endLine=p.line) (ha:SE C k sc a pa) (hes:SEs C k sc es pes):SE C k sc (.mth m a es) (.Call (.Attribute pa (m.name:Str) ap) pes [] p):=fun env A s γ ρ st Q X hs hr I Fr w=>by
 have star:=cU (env:=env) (pos:=p) hes.1
 have few:((backTo p (starEach pes env)).all (fun x=>!x.1) && (backToKw p (keywordEach [] env)).all (fun x=>x.1.isSome) && decide (pes.length+([]:List Keyword).length+(if ([]:List Keyword).isEmpty then 0 else 1) < 30))=true:=by
  simp only [Bool.and_eq_true,decide_eq_true_eq]
  refine ⟨⟨?_,by rfl⟩,Nat.lt_trans hlt (by decide)⟩
  rw [List.all_eq_true]
  intro x hx
  have:=List.any_eq_false.mp star x hx
  simpa using this
 refine wpAny_Call_method_late (mS hh) few (by simpa using hline) rfl (ha.at hs hr (At.start I Fr) w fun mo s₁ o st₁ ρ₁ w₁ r₁ a₁ S₁=>?_)
 obtain ⟨hT,w₁⟩:=w₁
 have args:wpAny C.M A (callWith p (.builtin m.id) [mo] (backTo p (starEach pes env)) []) (ek C γ ρ st s Q) (bA C γ ρ st s X) s₁:=
  Calls.callWith_builtin star (bR hes hs hr a₁ w₁ fun ms s' vs st' ρ' _ w' r' a' S'=>tn hr a' (r₁.kept S'.kept) r' w')
 cases hT with
 | append e=>
  obtain ⟨b,ns,rfl,hl,_⟩:=a₁.inv.view r₁ e
  exact ⟨"list", "list.append",F.plainAttrs_list,F.slot_list_append,F.type_list_append,hl.isList.typeIs,fun a e=>by cases e; obtain ⟨n,q⟩:=hl; exact ⟨_,q,rfl⟩,args⟩
 | pop e=>
  obtain ⟨b,ns,rfl,hl,_⟩:=a₁.inv.view r₁ e
  exact ⟨"list", "list.pop",F.plainAttrs_list,F.slot_list_pop,F.type_list_pop,hl.isList.typeIs,fun a e=>by cases e; obtain ⟨n,q⟩:=hl; exact ⟨_,q,rfl⟩,args⟩
 | split t=>
  obtain ⟨u,rfl,_⟩:=r₁.str_inv
  exact ⟨"str", "str.split",F.plainAttrs_str,F.slot_str_split,F.type_str_split,typeIs_str _ _ _,(fun _ e=>nomatch e),args⟩
 | join t=>
  obtain ⟨u,rfl,_⟩:=r₁.str_inv
  exact ⟨"str", "str.join",F.plainAttrs_str,F.slot_str_join,F.type_str_join,typeIs_str _ _ _,(fun _ e=>nomatch e),args⟩
 | starts t=>
  obtain ⟨u,rfl,_⟩:=r₁.str_inv
  exact ⟨"str", "str.startswith",F.plainAttrs_str,F.slot_str_startswith,F.type_str_startswith,typeIs_str _ _ _,(fun _ e=>nomatch e),args⟩
end
end
noncomputable section
open PySem PyProof.Rows
theorem kc:entryFor table "proto.unchain" =some Builtin.«proto.unchain»:=entryFor_of_tree (by kernel_rfl)
section
variable {prog:Program} {w:World} {A:Around} {E:Value→Shared→Prop} {s:Shared}
theorem fZ {α:Type} {h e:Addr} {oe oh:Obj} {ves vs:Array Value} {Q:α→Shared→Prop} (hh:A.handled=some (.ref h)) (he:s.heap.get? e=some oe) (hd:oe.data=.fields ves) (h2:2 < ves.size) (hx:s.heap.get? h=some oh) (hdh:oh.data=.fields vs) (hv:vs[2]?= some .none) (hne:h≠e)
  (hE:E (.ref e) { s with heap:=s.heap.update e (Obj.mapFields (·.setIfInBounds 2 (.ref h)))}):wpAny (model prog w) A (raiseNew (.ref e):Sem α) Q E s:=by
 unfold raiseNew
 refine wpAny_bind (wpAny_handled ?_)
 rw [hh]
 have hb:(Value.ref h != Value.ref e)=true:=by simpa using hne
 simp only [hb,if_true]
 refine wpAny_bind (wpAny_holding (wpAny_runValue (codeAny_builtin kc ?_)))
 show wpAny _ _ (field (.ref h) 2 >>= _) _ _ s
 refine wpAny_bind (wpAny_field hx hdh hv ?_)
 refine wpAny_pure ?_
 show wpAny _ _ _ _ _ s
 refine wpAny_bind ?_
 unfold updateField
 refine wpAny_bind (wpAny_load he ?_)
 rw [hd]
 simp only [h2,if_true]
 exact wpAny_update he (wpAny_throw hE)
noncomputable def HOk (A:Around) (h:Heap):Prop:=∀ v,A.handled=some v→∃ e o vs,v=.ref e∧h.get? e=some o∧o.data=.fields vs∧vs[2]?= some .none
theorem fw {α:Type} {Q:α→Shared→Prop} (hk:HOk A s.heap) (hE: ∀ h' e,(∀ b o,s.heap.get? b=some o→h'.get? b=some o)→(∃ o,h'.get? e=some o∧o.cls=.type "StopIteration")→E (.ref e) { s with heap:=h' }):
  wpAny (model prog w) A (newExc (.type "StopIteration") [] >>= fun v=>(raiseNew v:Sem α)) Q E s:=by
 refine wpAny_bind ?_
 simp only [newExc,newTuple]
 refine wpAny_bind (wpAny_newObj_type ?_ (by size_fits))
 refine wpAny_bind (m:=firstArgMember _ _) (wpAny_of_eq (a:=Value.none) (by first | rfl | (simp only [firstArgMember]; rfl)) ?_)
 refine wpAny_newObj_type ?_ (by size_fits)
 generalize hO:(s.heap.push _).push _=h2
 generalize hE2:(s.heap.push _).objs.size=e2
 have kp: ∀ b o,s.heap.get? b=some o→h2.get? b=some o:=fun b o x=>by rw [← hO]; exact Heap.get?_push_of_some _ (Heap.get?_push_of_some _ x)
 cases hh:A.handled with
 | none=>exact wpAny_raiseNew_none hh (hE h2 e2 kp ⟨_,by rw [← hO,← hE2]; exact Heap.get?_push_size _ rfl,rfl⟩)
 | some v=>
  obtain ⟨h,oh,vs,rfl,q1,q2,q3⟩:=hk v hh
  have hne:h≠e2:=fun z=>by
   have:=Heap.lt_size q1
   rw [z,← hE2,size_push'] at this
   exact absurd this (Nat.not_lt.mpr (Nat.le_succ _))
  obtain ⟨oo,he,hcl,ves,hd,hsz⟩: ∃ oo,h2.get? e2=some oo∧oo.cls=.type "StopIteration" ∧∃ ves,oo.data=.fields ves∧2 < ves.size:=
   ⟨_,by rw [← hO,← hE2]; exact Heap.get?_push_size _ rfl,rfl,_,rfl,by rw [Array.size_append]; show 2 < 6+_; exact lin [_] [] 1 (.a (.n 2) (.n 1)) (.a (.n 6) (.v 0)) rfl⟩
  refine fZ (s:={ s with heap:=h2 }) hh he hd hsz (kp _ _ q1) q2 q3 hne (hE _ e2 (fun b o x=>?_) ⟨_,Heap.get?_update_self _ he (Obj.isFreed_of_fields (Obj.data_mapFields hd _)),(Obj.cls_mapFields _ _).trans hcl⟩)
  rw [Heap.get?_update_other _ _ (fun z=>by
   have:=Heap.lt_size x
   rw [← z,← hE2,size_push'] at this
   exact absurd this (Nat.not_lt.mpr (Nat.le_succ _)))]
  exact kp b o x
theorem qD {it:Addr} {x left step:Int} {Q:Option Value→Shared→Prop} (hk:HOk A s.heap) (hit:IsRangeIter s.heap it x left step) (hleft:left≤0)
  (hQ: ∀ h',(∀ b o,b≠it→s.heap.get? b=some o→h'.get? b=some o)→Q none { s with heap:=h' }):wpAny (model prog w) A (pyNext (.ref it)) Q E s:=by
 have hT:s.TypeIs (.ref it) "range_iterator" :=⟨_,hit,rfl⟩
 unfold pyNext
 refine wpAny_bind (wpAny_attempt (wpAny_callSpecial?_slot (name:=Str.ofString "__next__") hT F.slot_range_iterator_next
  (wpAny_call_entry F.slot_range_iterator_next hT F.entry_range_iterator_next ?_ (F.args_range_iterator_next_1 _))))
 show wpAny _ _ (field (.ref it) 0 >>= _) _ _ s
 refine wpAny_bind (wpAny_field hit rfl (x:=rawInt x) rfl ?_)
 show wpAny _ _ (field (.ref it) 1 >>= _) _ _ s
 refine wpAny_bind (wpAny_field hit rfl (x:=rawInt left) rfl ?_)
 show wpAny _ _ (field (.ref it) 2 >>= _) _ _ s
 refine wpAny_bind (wpAny_field hit rfl (x:=rawInt step) rfl ?_)
 show wpAny _ _ (if left≤0 then _ else _) _ _ s
 rw [if_pos hleft]
 refine wpAny_bind (wpAny_rule ?_)
 refine wpAny_bind ?_
 show wpAny _ _ (newExc (.type "StopIteration") [] >>= _) _ _ _
 refine fw hk fun h' e kp he=>?_
 refine wpAny_bind (wpAny_isInstance (T:= "StopIteration") (b:=true) he isSubtype_stop ?_)
 exact wpAny_pure (hQ _ fun b o _ x=>kp b o x)
theorem HOk.at {h h':Heap} (hk:HOk A h) (k: ∀ v e,A.handled=some v→v=.ref e→∀ o,h.get? e=some o→h'.get? e=some o):HOk A h':=fun v hv=>by
 obtain ⟨e,o,vs,q1,q2,q3⟩:=hk v hv
 exact ⟨e,o,vs,q1,k v e hv q1 o q2,q3⟩
noncomputable def ej (A:Around):List Addr:=match A.handled with
 | some (.ref e)=>[e]
 | _=>[]
theorem bX {v:Value} {e:Addr} (h:A.handled=some v) (q:v=.ref e):e∈ej A:=by
 unfold ej; rw [h,q]; exact List.mem_cons_self
end
section
variable {prog:Program} {w:World} {A:Around}
theorem walks_range (I:Addr) (hI:I ∉ ej A) (a c:Int) (n:Nat):
  Walks prog w A I (I::ej A) [I] n (fun i v=>∃ t,v=.int (a+i*c) t) (fun i h=>IsRangeIter h I (a+(i:Nat)*c) ((n:Int) - (i:Nat)) c∧HOk A h) where
 sub:=fun b hb=>by simp at hb; simp [hb]
 frame:=fun _ _ _ st hk=>⟨hk I List.mem_cons_self _ st.1,st.2.at fun v e h1 h2 o ho=>hk e (List.mem_cons_of_mem _ (bX h1 h2)) o ho⟩
 item:=fun i s Q E hi st hQ=>by
  refine wpAny_pyNext_range_item st.1 (by lia) fun h' hit' hs'=>?_
  refine hQ _ h' _ ⟨_,rfl⟩ ⟨?_,st.2.at fun v e h1 h2 o ho=>hs'.extBut e o (fun z=>hI (z▸bX h1 h2)) ho⟩ fun b o hb e=>hs'.extBut b o (fun h=>hb (by simp [h])) e
  have e1:a+((i+1:Nat):Int)*c=a+(i:Int)*c+c:=by push_cast; rw [Int.add_mul,Int.one_mul,Int.add_assoc]
  have e2:(n:Int) - ((i+1:Nat):Int)=(n:Int) - (i:Int) - 1:=by push_cast; lia
  rw [e1,e2]; exact hit'
 done:=fun s Q E st hQ=>qD st.2 st.1 (by lia) fun h' he'=>hQ h' s.toks fun b o hb e=>he' b o (fun h=>hb (by simp [h])) e
 self:=fun _ _ _ _ st hQ=>wpAny_pyIter_rangeiter st.1 hQ
theorem tv {E:Value→Shared→Prop} {s:Shared} {it l:Addr} {i:Nat} {items:Array Value} {Q:Option Value→Shared→Prop} (hk:HOk A s.heap) (hI:it ∉ ej A)
  (hit:s.heap.IsListIter it l i) (hl:s.heap.IsList l items) (hx:items[i]?= none)
  (hQ: ∀ h',(∀ b o,b≠it→s.heap.get? b=some o→h'.get? b=some o)→Q none { s with heap:=h' }):wpAny (model prog w) A (pyNext (.ref it)) Q E s:=by
 obtain ⟨o,ho,hc,hd⟩:=id hit
 obtain ⟨ol,hol,_,nl,hdl⟩:=hl
 unfold pyNext
 refine wpAny_bind (wpAny_attempt (wpAny_callSpecial?_slot (name:=Str.ofString "__next__") hit.typeIs slot_listiter_next
  (wpAny_call_entry slot_listiter_next hit.typeIs entry_listiter_next ?_ (args_listiter_next _))))
 show wpAny _ _ (field (.ref it) 0 >>= _) _ _ s
 refine wpAny_bind (wpAny_field ho hd (x:=.ref l) rfl ?_)
 show wpAny _ _ (if (Value.ref l == Value.none)=true then _ else _) _ _ s
 rw [if_neg (show ¬ ((Value.ref l == Value.none)=true) from Bool.false_ne_true)]
 show wpAny _ _ (field (.ref it) 1 >>= _) _ _ s
 refine wpAny_bind (wpAny_field ho hd (x:=.int i 0) rfl ?_)
 show wpAny _ _ (seqItems? (.ref l) >>= _) _ _ s
 refine wpAny_bind (wpAny_seqItems hol hdl ?_)
 simp only [Int.toNat_natCast,hx]
 refine wpAny_bind (wpAny_rule (wpAny_bind (wpAny_setField ho hd (by simp) ?_)))
 have other: ∀ b,b≠it→∀ f:Obj→Obj,(s.heap.update it f).get? b=s.heap.get? b:=fun b hb f=>Heap.get?_update_other _ _ (Ne.symm hb)
 show wpAny _ _ (newExc (.type "StopIteration") [] >>= _) _ _ _
 refine fw (hk.at fun v e h1 h2 o ho=>(other e (fun z=>hI (z▸bX h1 h2)) _).trans ho) fun h' e kp he=>?_
 refine wpAny_bind (wpAny_isInstance (T:= "StopIteration") (b:=true) he isSubtype_stop ?_)
 exact wpAny_pure (hQ _ fun b o hb x=>kp b o ((other b hb _).trans x))
theorem walks_list (I ax:Addr) (hI:I ∉ ej A) (hne:ax≠I) (items:Array Value):
  Walks prog w A I (I::ax::ej A) [I] items.size (fun i v=>items[i]?= some v) (fun i h=>(h.IsListIter I ax i∧h.IsList ax items)∧HOk A h) where
 sub:=fun b hb=>by simp at hb; simp [hb]
 frame:=fun _ _ _ st hk=>⟨⟨st.1.1.at fun o e=>hk I List.mem_cons_self o e,st.1.2.at fun o e=>hk ax (List.mem_cons_of_mem _ List.mem_cons_self) o e⟩,st.2.at fun v e h1 h2 o ho=>hk e (List.mem_cons_of_mem _ (List.mem_cons_of_mem _ (bX h1 h2))) o ho⟩
 item:=fun i s Q E hi st hQ=>by
  refine wpAny_pyNext_list_item st.1.1 st.1.2 (x:=items[i]) (by simp [hi]) fun h' hit' hs'=>?_
  exact hQ _ h' s.toks (by simp [hi]) ⟨⟨hit',st.1.2.extBut hs'.extBut hne⟩,st.2.at fun v e h1 h2 o ho=>hs'.extBut e o (fun z=>hI (z▸bX h1 h2)) ho⟩ fun b o hb e=>hs'.extBut b o (fun h=>hb (by simp [h])) e
 done:=fun s Q E st hQ=>tv st.2 hI st.1.1 st.1.2 (by simp) fun h' he'=>hQ h' s.toks fun b o hb e=>he' b o (fun h=>hb (by simp [h])) e
 self:=fun _ _ _ _ st hQ=>wpAny_pyIter_listiter st.1.1 hQ
theorem uQ {E:Value→Shared→Prop} {s:Shared} {it:Addr} {x:Str} {t:Tok} {i:Nat} {Q:Option Value→Shared→Prop} (hk:HOk A s.heap) (hI:it ∉ ej A)
  (hit:s.heap.IsStrIter it "str_ascii_iterator" x t i) (hx:x.cps[i]?= none)
  (hQ: ∀ h',(∀ b o,b≠it→s.heap.get? b=some o→h'.get? b=some o)→Q none { s with heap:=h' }):wpAny (model prog w) A (pyNext (.ref it)) Q E s:=by
 obtain ⟨o,ho,hc,hd⟩:=id hit
 unfold pyNext
 refine wpAny_bind (wpAny_attempt (wpAny_callSpecial?_slot (name:=Str.ofString "__next__") hit.typeIs F.slot_str_ascii_iterator_next
  (wpAny_call_entry F.slot_str_ascii_iterator_next hit.typeIs F.entry_str_ascii_iterator_next ?_ (F.args_str_ascii_iterator_next_1 _))))
 show wpAny _ _ (field (.ref it) 0 >>= _) _ _ s
 refine wpAny_bind (wpAny_field ho hd (x:=.str x t) rfl ?_)
 show wpAny _ _ (field (.ref it) 1 >>= _) _ _ s
 refine wpAny_bind (wpAny_field ho hd (x:=.int i 0) rfl ?_)
 simp only [Int.toNat_natCast,hx]
 refine wpAny_bind (wpAny_rule (wpAny_bind (wpAny_setField ho hd (by simp) (wpAny_bind (wpAny_letGo ?_)))))
 have other: ∀ b,b≠it→∀ f:Obj→Obj,(s.heap.update it f).get? b=s.heap.get? b:=fun b hb f=>Heap.get?_update_other _ _ (Ne.symm hb)
 show wpAny _ _ (newExc (.type "StopIteration") [] >>= _) _ _ _
 refine fw (hk.at fun v e h1 h2 o ho=>(other e (fun z=>hI (z▸bX h1 h2)) _).trans ho) fun h' e kp he=>?_
 refine wpAny_bind (wpAny_isInstance (T:= "StopIteration") (b:=true) he isSubtype_stop ?_)
 exact wpAny_pure (hQ _ fun b o hb x=>kp b o ((other b hb _).trans x))
theorem walks_str (I:Addr) (hI:I ∉ ej A) (x:Str) (t:Tok):
  Walks prog w A I (I::ej A) [I] x.cps.size (SignAt x) (fun i h=>h.IsStrIter I "str_ascii_iterator" x t i∧HOk A h) where
 sub:=fun b hb=>by simp at hb; simp [hb]
 frame:=fun _ _ _ st hk=>⟨let ⟨o,ho,r⟩:=st.1; ⟨o,hk I List.mem_cons_self o ho,r⟩,st.2.at fun v e h1 h2 o ho=>hk e (List.mem_cons_of_mem _ (bX h1 h2)) o ho⟩
 item:=fun i s Q E hi st hQ=>by
  refine wpAny_pyNext_ascii_item st.1 (c:=x.cps[i]) (by simp [hi]) fun h' hit' hs'=>?_
  exact hQ _ h' (s.toks+1) ⟨_,_,by simp [hi],rfl⟩ ⟨hit',st.2.at fun v e h1 h2 o ho=>hs'.extBut e o (fun z=>hI (z▸bX h1 h2)) ho⟩ fun b o hb e=>hs'.extBut b o (fun h=>hb (by simp [h])) e
 done:=fun s Q E st hQ=>uQ st.2 hI st.1 (by simp) fun h' he'=>hQ h' s.toks fun b o hb e=>he' b o (fun h=>hb (by simp [h])) e
 self:=fun _ _ _ _ st hQ=>wpAny_pyIter_striter_ascii st.1 hQ
end
noncomputable def ef (γ:Gh) (a:Addr):Gh:=⟨fun b=>γ.h b∨b=a,γ.f,fun b q=>.inl (γ.fh b q),γ.e,γ.b,fun b q=>.inl (γ.bh b q)⟩
section
variable {C:Cx} {γ γ':Gh} {ρ ρ':List Addr} {H H':List HO} {s s':Shared} {st st':St} {env:Env} {a:Addr}
theorem Fra.kept (F:Fra γ env st ρ s) (K:cG s.heap ρ (Nl γ ρ st.H) s'.heap ρ' (Nl γ' ρ' st'.H)) (e:st'.s=st.s) (hs: ∀ b,γ.h b→γ'.h b)
  (kL: ∀ b o,γ.h b→s.heap.get? b=some o→∃ o',s'.heap.get? b=some o'∧dR o o') (lv: ∀ b,γ.h b→¬ Lv ρ' st'.H b) (hb: ∀ b,γ'.b b→γ.b b):Fra γ' env st' ρ' s':=by
 obtain ⟨m,hm,hv⟩:=F.ns
 refine ⟨F.kind,F.glob,F.blt,lv _ F.own,hs _ F.own,⟨m,aK hm fun o ho=>kL _ o F.own ho,fun x v k kz q=>?_⟩,fun x k=>?_,F.apart,fun q=>F.nb (hb _ q),fun n c h=>⟨hs _ (F.nbc n c h).1,fun q=>(F.nbc n c h).2 (hb _ q)⟩⟩
 ·obtain ⟨mv,e1,e2⟩:=hv x v k kz (e▸q)
  exact ⟨mv,e1,e2.kept K⟩
 ·obtain ⟨c,ov,h1,h2,⟨oc,hoc,hdc⟩,h4⟩:=F.cell x k
  obtain ⟨o',ho',al⟩:=kL c oc h2.2 hoc
  refine ⟨c,ov,h1,⟨lv _ h2.2,hs _ h2.2⟩,⟨oc,by rw [ho',al.same fun es n q=>by rw [hdc] at q; cases q],hdc⟩,fun y hy v q=>?_⟩
  obtain ⟨mv,e1,e2⟩:=h4 y hy v (e▸q)
  exact ⟨mv,e1,e2.kept K⟩
theorem Inv.ghost_nl (I:Inv C γ ρ H s) (h:γ.h a): ¬ Lv ρ H a:=fun q=>I.live_nh q h
theorem Inv.ghost_new (I:Inv C γ ρ H s) (ha:s.heap.get? a=none): ¬ γ.h a:=fun q=>by
 obtain ⟨o,e⟩:=I.held a q; rw [ha] at e; cases e
theorem kW (g:bP s s') (ha:s.heap.get? a=none):cG s.heap ρ (Nl γ ρ H) s'.heap ρ (Nl (ef γ a) ρ H):=
 ⟨fun _ o e _=>⟨o,g.keep _ _ e,.refl o⟩,fun b q=>by
  rcases q with q | q | q
  ·exact .inl (.inl q)
  ·exact .inl (.inr q)
  ·exact .inr (q▸ha),fun _ _ e=>e⟩
theorem Inv.hold (I:Inv C γ ρ H s) (g:bP s s') (ha:s.heap.get? a=none) (ha': ∃ x,s'.heap.get? a=some x):Inv C (ef γ a) ρ H s':=
 ⟨fun b o e=>g.keep _ _ (I.base b o e),I.len,I.nodup,I.fresh,fun b e=>let ⟨o,q⟩:=I.there b e; ⟨o,g.keep _ _ q⟩,
  fun i b o e1 e2=>(I.obj i b o e1 e2).kept (kW g ha) fun x hx=>g.keep _ _ hx,
  (fun b e q=>by
   rcases q with q | q
   ·exact I.apart b e q
   ·subst q; obtain ⟨o,x⟩:=I.there b e; rw [ha] at x; cases x),I.bor,
  fun b q=>by
   rcases q with q | q
   ·obtain ⟨o,e⟩:=I.held b q; exact ⟨o,g.keep _ _ e⟩
   ·rw [q]; exact ha',
  fun b q=>by
   rcases q with q | q
   ·exact I.off b q
   ·rw [q]; exact I.none_above ha,(fun b q=>let ⟨o,es,n,e,d⟩:=I.frm b q; ⟨o,es,n,g.keep _ _ e,d⟩),(fun b q=>let ⟨⟨o,vs,e,d⟩,l,nh⟩:=I.hdl b q; ⟨⟨o,vs,g.keep _ _ e,d⟩,l,fun z=>z.elim nh fun z=>by rw [z,ha] at e; cases e⟩),I.hq,g.gens.trans I.gens,g.os.trans I.os⟩
theorem Fra.hold (F:Fra γ env st ρ s) (I:Inv C γ ρ st.H s) (g:bP s s') (ha:s.heap.get? a=none):Fra (ef γ a) env st ρ s':=
 F.kept (kW g ha) rfl (fun _=>.inl) (fun _ o _ e=>⟨o,g.keep _ _ e,.refl o⟩) (fun _ q=>I.ghost_nl q) fun _ q=>q
theorem dB (hs: ∀ b,γ.h b→γ'.h b):cG s.heap ρ (Nl γ' ρ H) s.heap ρ (Nl γ ρ H):=
 ⟨fun _ o e _=>⟨o,e,.refl o⟩,fun b q=>by
  rcases q with q | q
  ·exact .inl (.inl q)
  ·exact .inl (.inr (hs _ q)),fun _ _ e=>e⟩
theorem Inv.drop (I:Inv C γ' ρ H s) (hs: ∀ b,γ.h b→γ'.h b) (hf: ∀ b,γ.f b→γ'.f b) (he: ∀ b,γ.e b→γ'.e b) (hb: ∀ b,γ.b b ↔ γ'.b b):Inv C γ ρ H s:=
 ⟨I.base,I.len,I.nodup,I.fresh,I.there,fun i b o e1 e2=>(I.obj i b o e1 e2).kept (dB hs) fun x hx=>hx,fun b e q=>(hb b).mpr (I.apart b e (hs _ q)),fun i b o e1 q e2=>I.bor i b o e1 ((hb b).mp q) e2,fun b q=>I.held b (hs _ q),fun b q=>I.off b (hs _ q),fun b q=>I.frm b (hf b q),fun b q=>(let ⟨x,l,nh⟩:=I.hdl b (he b q); ⟨x,l,fun z=>nh (hs _ z)⟩),(fun z b q=>I.hq z b (he b q)),I.gens,I.os⟩
theorem bQ (hI:γ.h a) (k: ∀ b o,b≠a→s.heap.get? b=some o→s'.heap.get? b=some o):cG s.heap ρ (Nl γ ρ H) s'.heap ρ (Nl γ ρ H):=
 ⟨fun b o e n=>⟨o,k b o (fun q=>n (.inr (q▸hI))) e,.refl o⟩,fun _ q=>.inl q,fun _ _ e=>e⟩
theorem Inv.touch (I:Inv C γ ρ H s) (hI:γ.h a) (nb: ¬ γ.b a) (hfr:γ.f a→∃ o es n,s'.heap.get? a=some o∧o.data=.dict es n) (k: ∀ b o,b≠a→s.heap.get? b=some o→s'.heap.get? b=some o) (ht: ∃ x,s'.heap.get? a=some x) (hg:s'.gens=s.gens) (ho:s'.os=s.os):Inv C γ ρ H s':=
 ⟨fun b o e=>k b o (fun q=>by rw [q,I.off a hI] at e; cases e) (I.base b o e),I.len,I.nodup,I.fresh,
  fun b e=>let ⟨o,q⟩:=I.there b e; ⟨o,k _ _ (fun x=>nb (x▸I.apart b e (x▸hI))) q⟩,
  fun i b o e1 e2=>(I.obj i b o e1 e2).kept (bQ hI k) fun x hx=>k _ _ (fun q=>nb (q▸I.apart b (List.mem_of_getElem? e1) (q▸hI))) hx,I.apart,I.bor,
  fun b q=>by
   by_cases e:b=a
   ·rw [e]; exact ht
   ·obtain ⟨o,x⟩:=I.held b q; exact ⟨o,k b o e x⟩,I.off,fun b q=>by
   obtain ⟨o,es,n,e,d⟩:=I.frm b q
   by_cases x:b=a
   ·exact x▸hfr (x▸q)
   ·exact ⟨o,es,n,k b o x e,d⟩,fun b q=>(let ⟨⟨o,vs,e,d⟩,l,nh⟩:=I.hdl b q; ⟨⟨o,vs,k b o (fun x=>nh (x▸hI)) e,d⟩,l,nh⟩),I.hq,hg.trans I.gens,ho.trans I.os⟩
theorem eY (hI:γ'.h a) (sub: ∀ b,γ.h b→γ'.h b) (k: ∀ b o,b≠a→s.heap.get? b=some o→s'.heap.get? b=some o):cG s.heap ρ (Nl γ' ρ H) s'.heap ρ (Nl γ ρ H):=
 ⟨fun b o e n=>⟨o,k b o (fun q=>n (.inr (q▸hI))) e,.refl o⟩,fun b q=>.inl (q.imp id (sub b)),fun _ _ e=>e⟩
theorem Inv.lose (I:Inv C γ' ρ H s) (hI:γ'.h a) (nb: ¬ γ'.b a) (hb: ∀ b,γ.b b ↔ γ'.b b) (sub: ∀ b,γ.h b→γ'.h b) (hf: ∀ b,γ.f b→γ'.f b) (he: ∀ b,γ.e b→γ'.e b) (hn: ¬ γ.h a) (k: ∀ b o,b≠a→s.heap.get? b=some o→s'.heap.get? b=some o) (hg:s'.gens=s.gens) (ho:s'.os=s.os):Inv C γ ρ H s':=by
 have ne: ∀ b∈ρ,b≠a:=fun b e q=>nb (q▸I.apart b e (q▸hI))
 refine ⟨fun b o e=>k b o (fun q=>by rw [q,I.off a hI] at e; cases e) (I.base b o e),I.len,I.nodup,I.fresh,
  fun b e=>let ⟨o,q⟩:=I.there b e; ⟨o,k _ _ (ne b e) q⟩,fun i b o e1 e2=>(I.obj i b o e1 e2).kept (eY hI sub k) fun x hx=>k _ _ (ne b (List.mem_of_getElem? e1)) hx,
  fun b e q=>(hb b).mpr (I.apart b e (sub b q)),fun i b o e1 q e2=>I.bor i b o e1 ((hb b).mp q) e2,fun b q=>?_,fun b q=>I.off b (sub b q),(fun b q=>let ⟨o,es,n,e,d⟩:=I.frm b (hf b q); ⟨o,es,n,k b o (fun x=>hn (x▸γ.fh b q)) e,d⟩),(fun b q=>let ⟨⟨o,vs,e,d⟩,l,nh⟩:=I.hdl b (he b q); ⟨⟨o,vs,k b o (fun x=>nh (x▸hI)) e,d⟩,l,fun z=>nh (sub b z)⟩),(fun z b q=>I.hq z b (he b q)),hg.trans I.gens,ho.trans I.os⟩
 obtain ⟨o,x⟩:=I.held b (sub b q); exact ⟨o,k b o (fun e=>hn (e▸q)) x⟩
theorem Fra.lose {st₁:St} {ρ₁:List Addr} {s₁:Shared} (F:Fra γ' env st ρ s) (F₁:Fra γ env st₁ ρ₁ s₁) (hI:γ'.h a) (sub: ∀ b,γ.h b→γ'.h b) (hn: ¬ γ.h a) (k: ∀ b o,b≠a→s.heap.get? b=some o→s'.heap.get? b=some o):Fra γ env st ρ s':=by
 obtain ⟨m,hm,hv⟩:=F.ns
 have K:=eY (ρ:=ρ) (H:=st.H) hI sub k
 refine ⟨F.kind,F.glob,F.blt,F.nl,F₁.own,⟨m,aK hm fun o ho=>⟨o,k _ _ (fun q=>hn (q▸F₁.own)) ho,.refl o⟩,fun x v k kz q=>?_⟩,fun x hk=>?_,F.apart,F₁.nb,F₁.nbc⟩
 ·obtain ⟨mv,e1,e2⟩:=hv x v k kz q
  exact ⟨mv,e1,e2.kept K⟩
 ·obtain ⟨c,ov,h1,h2,⟨oc,hoc,hdc⟩,h4⟩:=F.cell x hk
  obtain ⟨c',ov',h1',h2',_⟩:=F₁.cell x hk
  rw [h1] at h1'; cases h1'
  refine ⟨c,ov,h1,⟨h2.1,h2'.2⟩,⟨oc,k _ _ (fun q=>hn (q▸h2'.2)) hoc,hdc⟩,fun y hy v q=>?_⟩
  obtain ⟨mv,e1,e2⟩:=h4 y hy v q
  exact ⟨mv,e1,e2.kept K⟩
theorem Stp.touch {ρ₀:List Addr} {H₀:List HO} {s₀:Shared} (S:Stp ρ₀ H₀ s₀ ρ H s) (hn:s₀.heap.get? a=none) (k: ∀ b o,b≠a→s.heap.get? b=some o→s'.heap.get? b=some o):Stp ρ₀ H₀ s₀ ρ H s':=
 ⟨⟨fun b o e n=>by
   obtain ⟨o',e',q⟩:=S.kep.keep b o e n
   exact ⟨o',k b o' (fun q=>by rw [q,hn] at e; cases e) e',q⟩,S.kep.live,S.kep.pre⟩⟩
theorem Fra.touch {st₁:St} {ρ₁:List Addr} {s₁:Shared} {γ₁:Gh} (F:Fra γ env st ρ s) (F₁:Fra γ₁ env st₁ ρ₁ s₁) (hI:γ.h a) (hn: ¬ γ₁.h a) (k: ∀ b o,b≠a→s.heap.get? b=some o→s'.heap.get? b=some o):Fra γ env st ρ s':=by
 obtain ⟨m,hm,hv⟩:=F.ns
 have K:=bQ (ρ:=ρ) (H:=st.H) hI k
 refine ⟨F.kind,F.glob,F.blt,F.nl,F.own,⟨m,aK hm fun o ho=>⟨o,k _ _ (fun q=>hn (q▸F₁.own)) ho,.refl o⟩,fun x v k kz q=>?_⟩,fun x hk=>?_,F.apart,F.nb,F.nbc⟩
 ·obtain ⟨mv,e1,e2⟩:=hv x v k kz q
  exact ⟨mv,e1,e2.kept K⟩
 ·obtain ⟨c,ov,h1,h2,⟨oc,hoc,hdc⟩,h4⟩:=F.cell x hk
  obtain ⟨c',ov',h1',h2',_⟩:=F₁.cell x hk
  rw [h1] at h1'; cases h1'
  refine ⟨c,ov,h1,h2,⟨oc,k _ _ (fun q=>hn (q▸h2'.2)) hoc,hdc⟩,fun y hy v q=>?_⟩
  obtain ⟨mv,e1,e2⟩:=h4 y hy v q
  exact ⟨mv,e1,e2.kept K⟩
end
structure Ei (C:Cx) (A:Around) (N:Addr→Prop) (ρ:List Addr) (h:Heap) (items:List V) (I:Addr) (fp:List Addr) (P:Nat→Value→Prop) (St:Nat→Heap→Prop):Prop where
 walks:Walks C.prog C.w A I fp [I] items.length P St
 has: ∀ i h,St i h→∃ o,h.get? I=some o∧∀ es n,o.data≠.dict es n
 rel: ∀ i v mv,items[i]?= some v→P i mv→Rel h ρ N v mv
 fp: ∀ b∈fp,b=I∨(¬ Lv ρ [] b∧∃ o,h.get? b=some o∧∀ es n,o.data≠.dict es n)
 size:items.length≤ay
end
noncomputable section
open PySem PyProof.Rows
structure Itr (C:Cx) (A:Around) (L N:Addr→Prop) (ρ:List Addr) (h:Heap) (items:List V) (I:Addr) (fp:List Addr) (P:Nat→Value→Prop) (St:Nat→Heap→Prop):Prop where
 walks:Walks C.prog C.w A I fp [I] items.length P St
 has: ∀ i h,St i h→∃ o,h.get? I=some o∧∀ es n,o.data≠.dict es n
 rel: ∀ i v mv,items[i]?= some v→P i mv→Rel h ρ N v mv
 fp: ∀ b∈fp,b=I∨(¬ L b∧∃ o,h.get? b=some o∧∀ es n,o.data≠.dict es n)
 size:items.length≤ay
noncomputable def Off (γ:Gh) (ρ:List Addr) (H:List HO) (b:Addr):Prop:=Lv ρ H b∨(γ.h b∧¬ γ.b b)
noncomputable def gM (C:Cx) (A:Around) (L N:Addr→Prop) (ρ:List Addr) (s:Shared) (items:List V) (it:Value) (s':Shared):Prop:=
 ∃ I fp P St,it=.ref I∧s.heap.get? I=none∧bP s s'∧St 0 s'.heap∧Itr C A L N ρ s.heap items I fp P St
theorem nB {a b c:Int} (hc:0 < c):Builtin.Range.rangeSize a b c=((b - a+c - 1) / c).toNat:=by
 unfold Builtin.Range.rangeSize
 rw [if_pos hc]
 by_cases h:a < b
 ·rw [if_pos h]
  have e:b - a+c - 1=(b - a - 1)+c*1:=by lia
  rw [e,Int.add_mul_ediv_left _ _ (by lia)]
  have:=Int.ediv_nonneg (a:=b - a - 1) (b:=c) (by lia) (by exact (Int.le_of_lt hc))
  lia
 ·rw [if_neg h]
  have:(b - a+c - 1) / c < 1:=Int.ediv_lt_of_lt_mul hc (by lia)
  lia
theorem qB (a b c:Int):((cz a b c).map V.int).length=((b - a+c - 1) / c).toNat:=by rw [List.length_map,cz,List.length_map,List.length_range]
theorem qA {a b c:Int} (hc:0 < c∧c≤1000000) (ha: -1000000≤a∧a≤1000000) (hb: -1000000≤b∧b≤1000000):Builtin.Range.small a b c=true∧((b - a+c - 1) / c).toNat≤ay:=by
 have hq:(b - a+c - 1) / c≤3000000:=by
  refine Int.ediv_le_of_le_mul hc.1 ?_
  have:3000000*1≤3000000*c:=by lia
  lia
 refine ⟨?_,by unfold ay; lia⟩
 unfold Builtin.Range.small Builtin.Range.rangeFitsLong
 rw [nB hc.1]
 simp only [Bool.and_eq_true,decide_eq_true_eq,Bool.or_eq_true,if_pos hc.1]
 refine ⟨⟨⟨⟨⟨by exact (Int.le_of_lt (Int.lt_of_lt_of_le (show (-2 ^ 63:Int) < -1000000 by decide) ha.1)),by exact (Int.lt_of_le_of_lt ha.2 (show (1000000:Int) < 2 ^ 63 by decide))⟩,by exact (Int.le_of_lt (Int.lt_of_lt_of_le (show (-2 ^ 63:Int) < -1000000 by decide) hb.1)),by exact (Int.lt_of_le_of_lt hb.2 (show (1000000:Int) < 2 ^ 63 by decide))⟩,by exact (Int.le_of_lt (Int.lt_trans (show (-2 ^ 63:Int) < 0 by decide) hc.1)),by exact (Int.lt_of_le_of_lt hc.2 (show (1000000:Int) < 2 ^ 63 by decide))⟩,by lia,by lia⟩,.inr ⟨by lia,by lia⟩⟩
section
variable {C:Cx} {γ:Gh} {ρ:List Addr} {H:List HO} {s:Shared} {A:Around} {E:Value→Shared→Prop}
theorem bO.hok {k:Nat} (r:bO k A γ) (I:Inv C γ ρ H s):HOk A s.heap:=fun v e=>by
 obtain ⟨a,q1,q2⟩:=r.hdl v e
 obtain ⟨⟨o,vs,h1,h2,h3⟩,_⟩:=I.hdl a q2
 exact ⟨a,o,vs,q1,h1,h2,h3⟩
theorem bO.hadr {k:Nat} (r:bO k A γ) {a:Addr} (h:a∈ej A):γ.e a:=by
 unfold ej at h
 cases q:A.handled with
 | none=>rw [q] at h; cases h
 | some v=>
  obtain ⟨b,rfl,q2⟩:=r.hdl v q
  rw [q] at h
  rw [List.mem_singleton.mp h]; exact q2
theorem bO.hnew {k:Nat} (r:bO k A γ) (I:Inv C γ ρ H s) {a:Addr} (ha:s.heap.get? a=none):a ∉ ej A:=fun q=>by
 obtain ⟨⟨o,_,h1,_⟩,_⟩:=I.hdl _ (r.hadr q)
 rw [ha] at h1; cases h1
theorem bO.hfp {k:Nat} (r:bO k A γ) (I:Inv C γ ρ H s) {a:Addr} (q:a∈ej A): ¬ Off γ ρ H a∧∃ o,s.heap.get? a=some o∧∀ es n,o.data≠.dict es n:=by
 obtain ⟨⟨o,vs,h1,h2,_⟩,hl,nh⟩:=I.hdl _ (r.hadr q)
 exact ⟨fun z=>z.elim hl fun z=>nh z.1,o,h1,fun es n q=>by rw [h2] at q; cases q⟩
theorem kY {k:Nat} {a:Addr} {items:List V} {ms:List Value} (hr:bO k A γ) (J:Inv C γ ρ H s) (ht:s.heap.PlainList a ms.toArray) (hn: ¬ Off γ ρ H a) (hl:items.length≤ay) (r:aI s.heap ρ (Nl γ ρ H) items ms):
  wpAny C.M A (pyIter (.ref a)) (gM C A (Off γ ρ H) (Nl γ ρ H) ρ s items) E s:=by
 have hne:a≠s.heap.objs.size:=fun q=>by obtain ⟨n,ho⟩:=ht; rw [q,aJ] at ho; cases ho
 refine wpAny_pyIter_list ht.isList ⟨_,s.heap.objs.size::a::ej A,fun i v=>ms.toArray[i]?= some v,fun i h=>(h.IsListIter s.heap.objs.size a i∧h.IsList a ms.toArray)∧HOk A h,rfl,aJ _,bP.push s _ _,⟨⟨⟨_,Heap.get?_push_size _ rfl,rfl,rfl⟩,ht.isList.push _⟩,(hr.hok J).at fun v e _ _ o ho=>Heap.get?_push_of_some _ ho⟩,⟨?_,fun i h q=>?_,fun i v mv e1 e2=>?_,fun b hb=>?_,hl⟩⟩
 ·rw [r.length,show ms.length=ms.toArray.size by simp]; exact walks_list _ a (hr.hnew J (aJ _)) hne ms.toArray
 ·obtain ⟨⟨⟨o,ho,_,hd⟩,_⟩,_⟩:=q; exact ⟨o,ho,fun es n q=>by rw [hd] at q; cases q⟩
 ·obtain ⟨m,e3,e4⟩:=r.get e1
  rw [List.getElem?_toArray,e3] at e2; cases e2; exact e4
 ·rcases List.mem_cons.mp hb with q | q
  ·exact .inl q
  ·rcases List.mem_cons.mp q with rfl | q
   ·obtain ⟨n,ho⟩:=ht
    exact .inr ⟨hn,_,ho,fun es n' q=>by cases q⟩
   ·exact .inr (hr.hfp J q)
theorem eT {k:Nat} {v:V} {mv:Value} {items:List V} (hr:bO k A γ) (J:Inv C γ ρ H s) (r:Rel s.heap ρ (Nl γ ρ H) v mv) (e:dQ v items):wpAny C.M A (pyIter mv) (gM C A (Off γ ρ H) (Nl γ ρ H) ρ s items) E s:=by
 cases e with
 | @rng a b c hc ha hb=>
  obtain ⟨x,t,u,w,rfl,ht,hn⟩:=r.rng_inv
  obtain ⟨h1,h2⟩:=qA hc ha hb
  refine wpAny_pyIter_range ht h1 ⟨_,_,_,_,rfl,aJ _,bP.push s _ _,⟨?_,(hr.hok J).at fun v e _ _ o ho=>Heap.get?_push_of_some _ ho⟩,⟨walks_range _ (hr.hnew J (aJ _)) a c _,fun i h q=>⟨_,q.1,fun es n q=>by cases q⟩,fun i v mv e1 e2=>?_,fun b hb=>?_,?_⟩⟩
  ·obtain ⟨t,rfl⟩:=e2
   simp only [cz,List.getElem?_map,Option.map_eq_some_iff] at e1
   obtain ⟨x,⟨y,e3,rfl⟩,rfl⟩:=e1
   obtain ⟨h1,rfl⟩:=List.getElem?_eq_some_iff.mp e3
   rw [List.getElem_range,Int.mul_comm]
   exact .int _ _
  ·exact (List.mem_cons.mp hb).imp id fun q=>hr.hfp J q
  ·rw [qB]; exact h2
  ·rw [nB hc.1,qB]
   have:=Heap.get?_push_size s.heap (o:={ cls:=.type "range_iterator",data:=.fields #[rawInt a,rawInt ((b - a+c - 1) / c).toNat,rawInt c]}) rfl
   simpa [IsRangeIter] using this
 | lst vs=>
  obtain ⟨a,ms,rfl,ht,hn,hl,hr'⟩:=r.lst_inv
  exact kY hr J ht (fun q=>hn (q.imp id fun q=>q.1)) hl hr'
 | str cs=>
  obtain ⟨t,rfl,hl,hc⟩:=r.str_inv
  refine wpAny_pyIter_ascii (x:=sOf cs) (t:=t) (by simpa using hc) ?_
  refine ⟨_,s.heap.objs.size::ej A,SignAt (sOf cs),fun i h=>h.IsStrIter s.heap.objs.size "str_ascii_iterator" (sOf cs) t i∧HOk A h,rfl,aJ _,bP.push s _ _,⟨⟨_,Heap.get?_push_size _ rfl,rfl,rfl⟩,(hr.hok J).at fun v e _ _ o ho=>Heap.get?_push_of_some _ ho⟩,⟨?_,fun i h q=>?_,fun i v mv e1 e2=>?_,fun b hb=>?_,by rw [List.length_map]; exact hl⟩⟩
  ·rw [List.length_map,show cs.length=(sOf cs).cps.size by simp]; exact walks_str _ (hr.hnew J (aJ _)) _ t
  ·obtain ⟨⟨o,ho,_,hd⟩,_⟩:=q; exact ⟨o,ho,fun es n q=>by rw [hd] at q; cases q⟩
  ·obtain ⟨c,u,e3,rfl⟩:=e2
   rw [List.getElem?_map] at e1
   obtain ⟨c',e4,rfl⟩:=Option.map_eq_some_iff.mp e1
   have e3:cs[i]?= some c:=by simpa using e3
   rw [e3] at e4; cases e4
   exact .str (cs:=[c]) u (show 1≤16777216 by decide) fun x hx=>by rw [List.mem_singleton.mp hx]; exact hc c (List.mem_of_getElem? e3)
  ·exact (List.mem_cons.mp hb).imp id fun q=>hr.hfp J q
noncomputable def oE (γ:Gh) (a:Addr):Gh:=⟨fun b=>γ.h b∨b=a,γ.f,fun b q=>.inl (γ.fh b q),γ.e,fun b=>γ.b b∨b=a,fun b q=>q.imp (γ.bh b) id⟩
theorem cY {i:Nat} {a:Addr} (J:Inv C γ ρ H s) (ha:ρ[i]?= some a) (b:Addr) (q:Lv ρ (H.set i .dead) b):Lv ρ H b∧b≠a:=by
 obtain ⟨j,o,h1,h2,h3⟩:=q
 rcases bk h2 with ⟨_,rfl,_⟩ | ⟨ne,h2⟩
 ·cases h3
 ·exact ⟨⟨j,o,h1,h2,h3⟩,fun e=>ne (eV J.nodup ha (e▸h1))⟩
theorem qU {i:Nat} {a:Addr} {vs:List V} (J:Inv C γ ρ H s) (ha:ρ[i]?= some a) (hH:H[i]?= some (.list vs)) (b:Addr):Nl (oE γ a) ρ (H.set i .dead) b ↔ Nl γ ρ H b:=by
 constructor
 ·rintro (q | q | q)
  ·exact .inl (cY J ha b q).1
  ·exact .inr q
  ·exact .inl (q▸⟨i,_,ha,hH,rfl⟩)
 ·rintro (q | q)
  ·by_cases e:b=a
   ·exact .inr (.inr e)
   ·obtain ⟨j,o,h1,h2,h3⟩:=q
    refine .inl ⟨j,o,h1,?_,h3⟩
    rw [List.getElem?_set,if_neg fun z=>e (Option.some.inj ((z▸h1).symm.trans ha))]; exact h2
  ·exact .inr (.inl q)
end
end
noncomputable section
open PySem PyProof.Rows
section
variable {C:Cx} {γ γ':Gh} {env:Env} {ρ ρ':List Addr} {st st':St} {s s':Shared} {i:Nat} {a:Addr} {vs:List V}
theorem Inv.lend (J:Inv C γ ρ st.H s) (ha:ρ[i]?= some a) (hH:st.H[i]?= some (.list vs)):Inv C (oE γ a) ρ (st.H.set i .dead) s:=by
 have kp:cG s.heap ρ (Nl γ ρ st.H) s.heap ρ (Nl (oE γ a) ρ (st.H.set i .dead)):=⟨fun _ o e _=>⟨o,e,.refl o⟩,fun b q=>.inl ((qU J ha hH b).mp q),fun _ _ e=>e⟩
 refine ⟨J.base,by rw [List.length_set]; exact J.len,J.nodup,J.fresh,J.there,fun j b o h1 h2=>?_,fun b hb q=>q.imp (J.apart b hb) id,fun j b o h1 q h2=>?_,fun b q=>?_,fun b q=>?_,J.frm,fun b q=>?_,(fun z=>J.hq (dZ hH (fun c=>HO.noConfusion) z)),J.gens,J.os⟩
 ·rcases bk h2 with ⟨_,rfl,_⟩ | ⟨_,h2⟩
  ·trivial
  ·exact (J.obj j b o h1 h2).kept kp fun _ q=>q
 ·rcases bk h2 with ⟨_,rfl,_⟩ | ⟨ne,h2⟩
  ·rfl
  ·rcases q with q | q
   ·exact J.bor j b o h1 q h2
   ·exact absurd (eV J.nodup ha (q▸h1)) ne
 ·rcases q with q | q
  ·exact J.held b q
  ·exact q▸J.there a (List.mem_of_getElem? ha)
 ·rcases q with q | q
  ·exact J.off b q
  ·exact q▸J.fresh a (List.mem_of_getElem? ha)
 ·obtain ⟨x,l,nh⟩:=J.hdl b q
  exact ⟨x,fun z=>l (cY J ha b z).1,fun z=>z.elim nh fun z=>l (z▸⟨i,_,ha,hH,rfl⟩)⟩
theorem Fra.lend (F:Fra γ env st ρ s) (J:Inv C γ ρ st.H s) (ha:ρ[i]?= some a) (hH:st.H[i]?= some (.list vs)):Fra (oE γ a) env ⟨st.s,st.H.set i .dead⟩ ρ s:=by
 have na: ¬ γ.h a:=J.live_nh ⟨i,_,ha,hH,rfl⟩
 have kp:cG s.heap ρ (Nl γ ρ st.H) s.heap ρ (Nl (ef γ a) ρ (st.H.set i .dead)):=⟨fun _ o e _=>⟨o,e,.refl o⟩,fun b q=>.inl ((qU J ha hH b).mp q),fun _ _ e=>e⟩
 have X:Fra (ef γ a) env ⟨st.s,st.H.set i .dead⟩ ρ s:=F.kept kp rfl (fun _=>.inl) (fun _ o _ e=>⟨o,e,.refl o⟩) (fun b q z=>J.ghost_nl q (cY J ha b z).1) fun _ q=>q
 exact ⟨X.kind,X.glob,X.blt,X.nl,X.own,X.ns,X.cell,X.apart,fun q=>q.elim F.nb fun q=>na (q▸F.own),fun n c h=>⟨.inl (F.nbc n c h).1,fun q=>q.elim (F.nbc n c h).2 fun q=>na (q▸(F.nbc n c h).1)⟩⟩
theorem mT {H:List HO} (ha:ρ[i]?= some a) (hH:H[i]?= some .dead) (b:Addr):Lv ρ (H.set i (.list vs)) b ↔ Lv ρ H b∨b=a:=by
 constructor
 ·rintro ⟨j,o,h1,h2,h3⟩
  rcases bk h2 with ⟨rfl,_,_⟩ | ⟨_,h2⟩
  ·exact .inr (Option.some.inj (h1.symm.trans ha))
  ·exact .inl ⟨j,o,h1,h2,h3⟩
 ·rintro (⟨j,o,h1,h2,h3⟩ | rfl)
  ·refine ⟨j,o,h1,?_,h3⟩
   rw [List.getElem?_set,if_neg fun e=>?_]
   ·exact h2
   ·subst e; rw [hH] at h2; cases h2; cases h3
  ·refine ⟨i,.list vs,ha,?_,rfl⟩
   rw [List.getElem?_set,if_pos rfl,if_pos (List.getElem?_eq_some_iff.mp hH).1]
theorem ix {H:List HO} (ha:ρ[i]?= some a) (hH:H[i]?= some .dead):cG s.heap ρ (Nl (oE γ a) ρ H) s.heap ρ (Nl γ ρ (H.set i (.list vs))):=
 ⟨fun _ o e _=>⟨o,e,.refl o⟩,fun b q=>.inl (by
  rcases q with q | q
  ·exact ((mT ha hH b).mp q).imp id .inr
  ·exact .inr (.inl q)),fun _ _ e=>e⟩
theorem Inv.unlend {H:List HO} (J:Inv C (oE γ a) ρ H s) (na: ¬ γ.h a) (ha:ρ[i]?= some a) (hH:H[i]?= some .dead) (r:tO C s.heap ρ (Nl (oE γ a) ρ H) (.list vs) a):Inv C γ ρ (H.set i (.list vs)) s:=by
 refine ⟨J.base,by rw [List.length_set]; exact J.len,J.nodup,J.fresh,J.there,fun j b o h1 h2=>?_,fun b hb q=>?_,fun j b o h1 q h2=>?_,fun b q=>J.held b (.inl q),fun b q=>J.off b (.inl q),J.frm,fun b q=>?_,(fun z=>J.hq (dZ hH (fun c=>HO.noConfusion) z)),J.gens,J.os⟩
 ·rcases bk h2 with ⟨rfl,rfl,_⟩ | ⟨_,h2⟩
  ·rw [ha] at h1; cases h1
   exact r.kept (ix ha hH) fun _ q=>q
  ·exact (J.obj j b o h1 h2).kept (ix ha hH) fun _ q=>q
 ·exact (J.apart b hb (.inl q)).elim id fun e=>absurd (e▸q) na
 ·rcases bk h2 with ⟨rfl,_,_⟩ | ⟨_,h2⟩
  ·rw [ha] at h1; cases h1; exact absurd (γ.bh _ q) na
  ·exact J.bor j b o h1 (.inl q) h2
 ·obtain ⟨x,l,nh⟩:=J.hdl b q
  exact ⟨x,fun z=>((mT ha hH b).mp z).elim l fun e=>nh (.inr e),fun z=>nh (.inl z)⟩
theorem ek.unlend {Q:V→St→Prop} {mv:Value} (J:Inv C γ ρ st.H s) (ha:ρ[i]?= some a) (hH:st.H[i]?= some (.list vs))
  (p:ek C (oE γ a) ρ ⟨st.s,st.H.set i .dead⟩ s (fun v st'=>st'.H[i]?= some .dead∧Q v ⟨st'.s,st'.H.set i (.list vs)⟩) mv s'):ek C γ ρ st s Q mv s':=by
 obtain ⟨v,st',ρ',⟨h0,h1⟩,h2,h3,h4,h5⟩:=p
 have na: ¬ γ.h a:=J.live_nh ⟨i,_,ha,hH,rfl⟩
 obtain ⟨ms,⟨n,hx⟩,hr,hl⟩:=J.obj i _ _ ha hH
 have ha':ρ'[i]?= some a:=h5.kep.pre i a ha
 have lv₀: ¬ Lv ρ (st.H.set i .dead) a:=fun q=>(cY J ha a q).2 rfl
 have K5:cG s.heap ρ (Nl γ ρ st.H) s'.heap ρ' (Nl (oE γ a) ρ' st'.H):=⟨fun b o e n=>h5.kep.keep b o e (fun q=>n (.inl (cY J ha b q).1)),fun b q=>by
  rcases q with q | q | q
  ·exact (h5.kep.live b q).imp (fun z=>.inl (cY J ha b z).1) id
  ·exact .inl (.inr q)
  ·exact .inl (.inl (q▸⟨i,_,ha,hH,rfl⟩)),h5.kep.pre⟩
 have r:tO C s'.heap ρ' (Nl (oE γ a) ρ' st'.H) (.list vs) a:=⟨ms,⟨n,h5.kep.same hx lv₀ fun es m q=>by cases q⟩,hr.kept K5,hl⟩
 have I':=h4.unlend na ha' h0 r
 have K:=ix (γ:=γ) (vs:=vs) (s:=s') ha' h0
 refine ⟨v,⟨st'.s,st'.H.set i (.list vs)⟩,ρ',h1,h2,h3.kept K,I',⟨⟨fun b o e n=>h5.kep.keep b o e (fun q=>n (cY J ha b q).1),fun b q=>?_,h5.kep.pre⟩⟩⟩
 rcases (mT ha' h0 b).mp q with q | q
 ·exact (h5.kep.live b q).imp (fun z=>(cY J ha b z).1) id
 ·exact .inl (q▸⟨i,_,ha,hH,rfl⟩)
end
end
noncomputable section
open PySem PyProof.Rows
noncomputable def du (cs sc:Scope):Scope:=
 { cs with names:=cs.names.map fun (n,k)=>if (k == .free && sc.kind == .function && sc.names.lookup n == some .cell) then (n,.cell) else (n,k)}
noncomputable def dp (cs sc:Scope) (x:String):Bool:=
 cs.kind == .function && kd cs x == some .local &&
 cs.names.all fun p=>match p.2 with
  | .local=>cs.names.lookup p.1 == some .local && (p.1 == (x:Str) || p.1 == (".0" :Str))
  | .free=>sc.names.lookup p.1 == some .cell || sc.names.lookup p.1 == some .free
  | .cell=>false
  | _=>true
noncomputable def ga (env:Env):List (Str×NameKind)→List (Str×Addr)→List (Str×Addr)
 | [],acc=>acc
 | (n,k)::r,acc=>ga env r (if k == .free then (n,(env.cells.lookup n).getD 0)::acc else acc)
theorem pI {cs:Scope} {env:Env} (h: ∀ n,(n,NameKind.free)∈cs.names→∃ c,env.cells.lookup n=some c):closureFor cs env=pure (ga env cs.names []):=by
 have key: ∀ (names:List (Str×NameKind)) (acc:List (Str×Addr)),(∀ n,(n,NameKind.free)∈names→∃ c,env.cells.lookup n=some c)→
   (forIn names acc fun (x:Str×NameKind) (r:List (Str×Addr))=>(match x with
    | (name,kind)=>if kind == NameKind.free then do let c ← cellOf env name; pure (ForInStep.yield ((name,c)::r)) else pure (ForInStep.yield r):Sem (ForInStep (List (Str×Addr)))))=pure (ga env names acc):=by
  intro names
  induction names with
  | nil=>intro acc _; rfl
  | cons p r ih=>
   intro acc h
   obtain ⟨n,k⟩:=p
   rw [List.forIn_cons]
   by_cases hk:k=.free
   ·subst hk
    obtain ⟨c,hc⟩:=h n List.mem_cons_self
    simp only [beq_self_eq_true,if_true,ga,hc,Option.getD_some]
    unfold cellOf
    simp only [hc,pure_bind]
    exact ih _ fun n q=>h n (List.mem_cons_of_mem _ q)
   ·have:(k == NameKind.free)=false:=by simpa using hk
    simp only [this,Bool.false_eq_true,if_false,ga,pure_bind]
    exact ih _ fun n q=>h n (List.mem_cons_of_mem _ q)
 unfold closureFor
 have:=key cs.names [] h
 simp only [bind_pure] at this ⊢
 exact this
theorem eL {env:Env}: ∀ (names:List (Str×NameKind)) (acc:List (Str×Addr)) (n:Str) (c:Addr),(ga env names acc).lookup n=some c→
  (acc.lookup n=some c∨((n,NameKind.free)∈names∧c=(env.cells.lookup n).getD 0))
 | [],acc,n,c,h=>.inl h
 | (m,k)::r,acc,n,c,h=>by
  simp only [ga] at h
  rcases eL r _ n c h with q | ⟨q1,q2⟩
  ·split at q
   ·rename_i hk
    simp only [beq_iff_eq] at hk
    subst hk
    rw [List.lookup_cons] at q
    split at q
    ·rename_i e
     have e:=beq_iff_eq.mp e
     subst e
     cases q
     exact .inr ⟨List.mem_cons_self,rfl⟩
    ·exact .inl q
   ·exact .inl q
  ·exact .inr ⟨List.mem_cons_of_mem _ q1,q2⟩
theorem lu {env:Env}: ∀ (names:List (Str×NameKind)) (acc:List (Str×Addr)) (n:Str),((n,NameKind.free)∈names∨∃ c,acc.lookup n=some c)→∃ c,(ga env names acc).lookup n=some c
 | [],acc,n,h=>by
  rcases h with h | h
  ·cases h
  ·exact h
 | (m,k)::r,acc,n,h=>by
  simp only [ga]
  refine lu r _ n ?_
  rcases h with h | ⟨c,h⟩
  ·rcases List.mem_cons.mp h with e | e
   ·cases e
    right
    simp
   ·exact .inl e
  ·right
   split
   ·by_cases e:n == m
    ·simp [List.lookup_cons,e]
    ·simp only [Bool.not_eq_true] at e
     simp [List.lookup_cons,e,h]
   ·exact ⟨c,h⟩
theorem pJ {env:Env} {names:List (Str×NameKind)} {n:Str} {c:Addr} (hf:(n,NameKind.free)∈names) (h:env.cells.lookup n=some c):(ga env names []).lookup n=some c:=by
 obtain ⟨c',h'⟩:=lu (env:=env) names [] n (.inl hf)
 rcases eL names [] n c' h' with q | ⟨_,q⟩
 ·cases q
 ·rw [h',q,h]; rfl
theorem cn {n:Str} {k:NameKind}: ∀ {l:List (Str×NameKind)},l.lookup n=some k→(n,k)∈l
 | [],h=>by cases h
 | (m,j)::r,h=>by
  rw [List.lookup_cons] at h
  split at h
  ·rename_i e
   have:=beq_iff_eq.mp e; subst this
   cases h; exact List.mem_cons_self
  ·exact List.mem_cons_of_mem _ (cn h)
theorem cH {env:Env} {n:Str} {k:NameKind}: ∀ {names:List (Str×NameKind)},
  (names.map fun (n,k)=>if (k == NameKind.free && env.scope.kind == .function && env.kindOf n == some .cell) then (n,NameKind.cell) else (n,k)).lookup n=some k→
  ∃ j,names.lookup n=some j∧(k=j∨(k=.cell∧j=.free))
 | [],h=>by simp at h
 | (m,j)::r,h=>by
  rw [List.map_cons] at h
  by_cases hc:(j == NameKind.free && env.scope.kind == .function && env.kindOf m == some .cell)=true
  ·simp only [hc,if_true,List.lookup_cons] at h ⊢
   split at h
   ·cases h
    simp only [Bool.and_eq_true,beq_iff_eq] at hc
    rename_i e
    exact ⟨j,by simp [e],.inr ⟨rfl,hc.1.1⟩⟩
   ·rename_i e
    obtain ⟨i,q1,q2⟩:=cH h
    exact ⟨i,by simp [e,q1],q2⟩
  ·simp only [hc] at h
   simp only [Bool.false_eq_true,if_false] at h
   rw [List.lookup_cons] at h ⊢
   split at h
   ·cases h
    rename_i e
    exact ⟨k,by simp [e],.inl rfl⟩
   ·rename_i e
    obtain ⟨i,q1,q2⟩:=cH h
    exact ⟨i,by simp [e,q1],q2⟩
section
variable {C:Cx} {γ γ':Gh} {ρ ρ':List Addr} {H H':List HO} {s s':Shared} {st st':St} {env:Env} {a:Addr}
structure cQ (cs:Scope) (env:Env) (x:String):Prop where
 kind:cs.kind=.function
 isx:cs.names.lookup (x:Str)=some .local
 loc: ∀ p∈cs.names,p.2=.local→cs.names.lookup p.1=some .local
 only: ∀ p∈cs.names,p.2=.local→p.1=(x:Str)∨p.1=(".0" :Str)
 nocell: ∀ p∈cs.names,p.2≠.cell
 free: ∀ n,(n,NameKind.free)∈cs.names→env.kindOf n=some .cell∨env.kindOf n=some .free
theorem dH {cs:Scope} {env:Env} {x:String} (h:dp cs env.scope x=true):cQ cs env x:=by
 simp only [dp,Bool.and_eq_true,beq_iff_eq,List.all_eq_true,kd] at h
 obtain ⟨⟨h1,h2⟩,h3⟩:=h
 refine ⟨h1,h2,fun p hp e=>?_,fun p hp e=>?_,fun p hp e=>?_,fun n hp=>?_⟩
 ·have:=h3 p hp; rw [e] at this; simp at this; exact this.1
 ·have:=h3 p hp; rw [e] at this; simp at this; exact this.2
 ·have:=h3 p hp; rw [e] at this; simp at this
 ·have:=h3 _ hp; simpa [Env.kindOf] using this
theorem cQ.closure {cs:Scope} {x:String} (h:cQ cs env x) (F:Fra γ env st ρ s):closureFor cs env=pure (ga env cs.names []):=
 pI fun n hn=>let ⟨c,_,h1,_⟩:=F.cell n (h.free n hn); ⟨c,h1⟩
theorem tH {cs:Scope} {x:String} {Cl:Addr} {m:Str→Option Value} {v:V} {mv:Value} (h:cQ cs env x) (F:Fra γ env st ρ s) (hg:γ.h Cl) (nb: ¬ γ.b Cl) (hl: ¬ Lv ρ st.H Cl)
  (hn:s.heap.Ns Cl m) (hm:m x=some mv) (r:Rel s.heap ρ (Nl γ ρ st.H) v mv):Fra γ (compEnvC cs (ga env cs.names []) Cl env) (st.set x v) ρ s:=by
 have kinds: ∀ n k,(compEnvC cs (ga env cs.names []) Cl env).kindOf n=some k→∃ j,cs.names.lookup n=some j∧(k=j∨(k=.cell∧j=.free)):=fun n k q=>cH q
 have cells: ∀ n c,(ga env cs.names []).lookup n=some c→env.cells.lookup n=some c:=fun n c q=>by
  rcases eL cs.names [] n c q with e | ⟨e1,e2⟩
  ·cases e
  ·obtain ⟨c',_,h1,_⟩:=F.cell n (h.free n e1)
   rw [h1] at e2 ⊢; rw [e2]; rfl
 refine ⟨h.kind,F.glob,F.blt,hl,hg,⟨m,hn,fun y w k kz q=>?_⟩,fun n k=>?_,fun n n' c q q'=>F.apart n n' c (cells _ _ q) (cells _ _ q'),nb,fun n c q=>F.nbc n c (cells _ _ q)⟩
 ·obtain ⟨j,e1,e2⟩:=kinds _ _ k
  have hj:j=.local:=by
   rcases e2 with e | ⟨e,_⟩
   ·exact e.symm
   ·cases e
  subst hj
  rcases h.only _ (cn e1) rfl with e | e
  ·have:=fv e
   subst this
   simp only [St.set,if_true,Option.some.injEq] at q
   subst q
   exact ⟨mv,hm,r⟩
  ·exact absurd e kz
 ·have hf:cs.names.lookup n=some .free:=by
   rcases k with k | k
   ·obtain ⟨j,e1,e2⟩:=kinds _ _ k
    rcases e2 with e | ⟨_,e⟩
    ·subst e; exact absurd rfl (h.nocell _ (cn e1))
    ·rw [e] at e1; exact e1
   ·obtain ⟨j,e1,e2⟩:=kinds _ _ k
    rcases e2 with e | ⟨e,_⟩
    ·rw [← e] at e1; exact e1
    ·cases e
  obtain ⟨c,ov,h1,h2,h3,h4⟩:=F.cell n (h.free n (cn hf))
  refine ⟨c,ov,pJ (cn hf) h1,h2,h3,fun y hy w q=>h4 y hy w ?_⟩
  have:y≠x:=fun e=>by subst e; have h0:=h.isx; rw [hy,hf] at h0; cases h0
  simpa [St.set,this] using q
end
noncomputable def G3 (γ:Gh) (I D K:Addr):Gh:=⟨fun b=>γ.h b∨b=I∨b=D∨b=K,γ.f,fun b q=>.inl (γ.fh b q),γ.e,γ.b,fun b q=>.inl (γ.bh b q)⟩
noncomputable def G2 (γ:Gh) (D K:Addr):Gh:=⟨fun b=>γ.h b∨b=D∨b=K,γ.f,fun b q=>.inl (γ.fh b q),γ.e,γ.b,fun b q=>.inl (γ.bh b q)⟩
structure jv (C:Cx) (γ':Gh) (env:Env) (ρ₁:List Addr) (st₁:St) (s₁:Shared) (D Cl:Addr) (acc:List V) (ρ:List Addr) (st:St) (s:Shared):Prop where
 inv:Inv C γ' ρ st.H s
 fra:Fra γ' env st ρ s
 ns: ∃ m,s.heap.Ns Cl m
 stp:Stp ρ₁ st₁.H s₁ ρ st.H s
 acc: ∃ ms:List Value,s.heap.PlainList D ms.toArray∧aI s.heap ρ (Nl γ' ρ st.H) acc ms
 same:st.s=st₁.s
theorem qX {γ γ':Gh} {ρ₁ ρ:List Addr} {H₁ H:List HO} {s₁ s:Shared} (S:Stp ρ₁ H₁ s₁ ρ H s) (hs: ∀ b,γ'.h b→γ.h b∨s₁.heap.get? b=none):cG s₁.heap ρ₁ (Nl γ ρ₁ H₁) s.heap ρ (Nl γ' ρ H):=
 ⟨fun a o e n=>S.kep.keep a o e fun q=>n (.inl q),fun a q=>by
  rcases q with q | q
  ·exact (S.kep.live a q).imp .inl id
  ·exact (hs a q).imp .inr id,S.kep.pre⟩
noncomputable def wQ (C:Cx) (A:Around) (γ:Gh) (cs:Scope) (env:Env) (x:String) (ifs:List Expr) (elt:Expr) (f:V→St→(List V→St→Prop)→Prop):Prop:=
 ∀ (γ':Gh) (_: ∀ a,γ.f a→γ'.f a) (_: ∀ a,γ.e a→γ'.e a) (Cl:Addr) (s:Shared) (ρ:List Addr) (st:St) (v:V) (Kf:List V→St→Prop) (E:Value→Shared→Prop),Inv C γ' ρ st.H s→Fra γ' (compEnvC cs (ga env cs.names []) Cl env) (st.set x v) ρ s→f v st Kf→
 wpAny C.M A (forIn ifs true fun c r=>if r=true then do let ok ← isTrue c (compEnvC cs (ga env cs.names []) Cl env) (eval c (compEnvC cs (ga env cs.names []) Cl env)); pure (ForInStep.yield ok) else pure (ForInStep.yield r))
  (fun ok s₃=>if ok=true then wpAny C.M A (eval elt (compEnvC cs (ga env cs.names []) Cl env)) (fun y s₄=>∃ r st' ρ',Kf [r] st'∧st'.s=st.s∧Rel s₄.heap ρ' (Nl γ' ρ' st'.H) r y∧Inv C γ' ρ' st'.H s₄∧Stp ρ st.H s ρ' st'.H s₄) E s₃
   else ∃ st' ρ',Kf [] st'∧st'.s=st.s∧Inv C γ' ρ' st'.H s₃∧Stp ρ st.H s ρ' st'.H s₃) E s
section
variable {C:Cx} {γ:Gh} {env:Env} {A:Around} {ρ₁:List Addr} {st₁:St} {s₁:Shared} {ρ:List Addr} {st:St} {s:Shared}
theorem rO {elt iter:Expr} {x:String} {px pos:Pos} {ifs:List Expr} {cs:Scope} {items:List V} {f:V→St→(List V→St→Prop)→Prop} {I D Cl:Addr} {fp:List Addr} {P:Nat→Value→Prop} {St':Nat→Heap→Prop}
  {R:Result→Shared→Prop} {Kf:List V→St→Prop} (hnm:cQ cs env x) (T:wQ C A γ cs env x ifs elt f) (F₁:Fra γ env st₁ ρ₁ s₁)
  (it:Itr C A (Off γ ρ₁ st₁.H) (Nl γ ρ₁ st₁.H) ρ₁ s₁.heap items I fp P St') (dI:s₁.heap.get? I=none) (dD:s₁.heap.get? D=none) (dC:s₁.heap.get? Cl=none) (nDI:D≠I) (nCI:Cl≠I) (nDC:D≠Cl)
  (gI: ¬ γ.h I) (gD: ¬ γ.h D) (gC: ¬ γ.h Cl) (h0:jv C (G3 γ I D Cl) env ρ₁ st₁ s₁ D Cl [] ρ st s) (hst:St' 0 s.heap) (w:fK f items [] st Kf)
  (fin: ∀ acc ρ st s',jv C (G2 γ D Cl) env ρ₁ st₁ s₁ D Cl acc ρ st s'→acc.length≤ay→Kf acc st→R (.ok .next) s'):
  codeAny C.M A (.compLoop (.ListComp elt [⟨.Name (x:Str) px,iter,ifs,0⟩] cs pos) 0 (.ref I) (.ref D) (compEnvC cs (ga env cs.names []) Cl env)) R s:=by
 have W:=it.walks
 have gs: ∀ b,(G3 γ I D Cl).h b→γ.h b∨s₁.heap.get? b=none:=fun b q=>by
  rcases q with q | rfl | rfl | rfl
  ·exact .inl q
  ·exact .inr dI
  ·exact .inr dD
  ·exact .inr dC
 have offp: ∀ b,s₁.heap.get? b=none→b≠I→b ∉ fp:=fun b hb hne hm=>by
  rcases it.fp b hm with e | ⟨_,o,e,_⟩
  ·exact hne e
  ·rw [hb] at e; cases e
 have stt: ∀ {i:Nat} {b:Addr} {s s':Shared},s₁.heap.get? b=none→b≠I→(∀ x o,x≠b→s.heap.get? x=some o→s'.heap.get? x=some o)→St' i s.heap→St' i s'.heap:=fun hb hne k q=>
  W.frame _ _ _ q fun y hy o e=>k y o (fun e'=>offp _ hb hne (e'▸hy)) e
 have stk: ∀ {i:Nat} {ρ ρ':List Addr} {st st':St} {s s':Shared},Inv C (G3 γ I D Cl) ρ st.H s→Stp ρ₁ st₁.H s₁ ρ st.H s→Stp ρ st.H s ρ' st'.H s'→St' i s.heap→St' i s'.heap:=fun {i ρ ρ' st st' s s'} J S S' q=>by
  refine W.frame _ _ _ q fun y hy o e=>?_
  rcases it.fp y hy with rfl | ⟨hn,o₁,h1,h2⟩
  ·obtain ⟨o',e',hd⟩:=it.has _ _ q
   rw [e] at e'; cases e'
   exact S'.kep.same e (J.ghost_nl (.inr (.inl rfl))) hd
  ·have hl: ¬ Lv ρ₁ st₁.H y:=fun z=>hn (.inl z)
   have e1:=S.kep.same h1 hl h2
   rw [e] at e1; cases e1
   exact S'.kep.same e (S.kep.notLive h1 hl) h2
 refine codeAny_compLoop_tests (fun n s'=>∃ i acc ρ st,n=items.length+1 - i∧i≤items.length∧acc.length≤i∧jv C (G3 γ I D Cl) env ρ₁ st₁ s₁ D Cl acc ρ st s'∧St' i s'.heap∧fK f (items.drop i) acc st Kf) ?_ (items.length+1)
  ⟨0,[],ρ,st,rfl,Nat.zero_le _,Nat.le_refl _,h0,hst,w⟩
 rintro n s' ⟨i,acc,ρ,st,rfl,hi,hacc,J,hst',w⟩
 by_cases hlt:i < items.length
 ·have hdrop:items.drop i=items[i]::items.drop (i+1):=List.drop_eq_getElem_cons hlt
  rw [hdrop] at w
  have w:f items[i] st (fun a st'=>fK f (items.drop (i+1)) (acc++a) st' Kf):=w
  have hv:items[i]?= some items[i]:=List.getElem?_eq_getElem hlt
  generalize items[i]=v at w hv
  refine W.item i _ _ _ hlt hst' fun mv h₁ tk₁ hPv hst₁ hk₁=>?_
  have k1: ∀ b o,b≠I→s'.heap.get? b=some o→h₁.get? b=some o:=fun b o hb e=>hk₁ b o (by simpa using hb) e
  obtain ⟨m,hm⟩:=J.ns
  obtain ⟨ms,hpl,hrl⟩:=J.acc
  refine wpAny_assign_Name (wpAny_storeName_local (lookup_relabel_local hnm.isx) (hm.at' fun o e=>k1 _ o nCI e) (fun h₂ hn₂ hs₂=>?_) (by simp [compEnvC,relabel,hnm.kind]))
  have I1:Inv C (G3 γ I D Cl) ρ st.H ({ s' with heap:=h₁,toks:=tk₁ }:Shared):=J.inv.touch (a:=I) (.inr (.inl rfl)) (fun q=>gI (γ.bh _ q)) (fun q=>(gI (γ.fh _ q)).elim) k1 (let ⟨o,e,_⟩:=it.has _ _ hst₁; ⟨o,e⟩) rfl rfl
  have F1:Fra (G3 γ I D Cl) env st ρ ({ s' with heap:=h₁,toks:=tk₁ }:Shared):=J.fra.touch F₁ (.inr (.inl rfl)) gI k1
  have S1:Stp ρ₁ st₁.H s₁ ρ st.H ({ s' with heap:=h₁,toks:=tk₁ }:Shared):=J.stp.touch dI k1
  have K1:cG s'.heap ρ (Nl (G3 γ I D Cl) ρ st.H) h₁ ρ (Nl (G3 γ I D Cl) ρ st.H):=bQ (s:=s') (s':={ s' with heap:=h₁,toks:=tk₁ }) (a:=I) (.inr (.inl rfl)) k1
  have k2: ∀ b o,b≠Cl→h₁.get? b=some o→h₂.get? b=some o:=fun b o hb e=>hs₂.extBut b o hb e
  generalize hS2:({ ({ s' with heap:=h₁,toks:=tk₁ }:Shared) with heap:=h₂,toks:=tk₁+1 }:Shared)=s2
  have e2:s2.heap=h₂:=by rw [← hS2]
  have I2:Inv C (G3 γ I D Cl) ρ st.H s2:=I1.touch (a:=Cl) (.inr (.inr (.inr rfl))) (fun q=>gC (γ.bh _ q)) (fun q=>(gC (γ.fh _ q)).elim) (by rw [e2]; exact k2) (by rw [e2]; exact cx hn₂) (by rw [← hS2]) (by rw [← hS2])
  have F2:Fra (G3 γ I D Cl) env st ρ s2:=F1.touch F₁ (.inr (.inr (.inr rfl))) gC (by rw [e2]; exact k2)
  have S2:Stp ρ₁ st₁.H s₁ ρ st.H s2:=S1.touch (a:=Cl) dC (by rw [e2]; exact k2)
  have K2:cG h₁ ρ (Nl (G3 γ I D Cl) ρ st.H) s2.heap ρ (Nl (G3 γ I D Cl) ρ st.H):=bQ (s:={ s' with heap:=h₁,toks:=tk₁ }) (s':=s2) (a:=Cl) (.inr (.inr (.inr rfl))) (by rw [e2]; exact k2)
  have hst2:St' (i+1) s2.heap:=stt (s:={ s' with heap:=h₁,toks:=tk₁ }) (s':=s2) dC nCI (by rw [e2]; exact k2) hst₁
  have hpl2:s2.heap.PlainList D ms.toArray:=by rw [e2]; exact (hpl.at fun o e=>k2 _ o nDC (k1 _ o nDI e))
  have hrl2:=(hrl.kept K1).kept K2
  have rv:Rel s2.heap ρ (Nl (G3 γ I D Cl) ρ st.H) v mv:=(it.rel i v mv hv hPv).kept (qX S2 gs)
  have FC:Fra (G3 γ I D Cl) (compEnvC cs (ga env cs.names []) Cl env) (st.set x v) ρ s2:=tH hnm F2 (.inr (.inr (.inr rfl))) (fun q=>gC (γ.bh _ q)) (I2.ghost_nl (.inr (.inr (.inr rfl)))) (by rw [e2]; exact hn₂) (by simp) rv
  refine wpAny_mono (T (G3 γ I D Cl) (fun _ q=>q) (fun _ q=>q) Cl s2 ρ st v _ _ I2 FC w) (fun ok s₃ h₃=>?_) fun _ _ e=>e
  have hnC: ∃ m,s2.heap.Ns Cl m:=⟨_,by rw [e2]; exact hn₂⟩
  cases ok with
  | false=>
   simp only [Bool.false_eq_true,if_false] at h₃ ⊢
   obtain ⟨st',ρ',h1,h2,h3,h4⟩:=h₃
   refine ⟨_,?_,i+1,acc,ρ',st',rfl,hlt,by exact li [_,i] [([1],[2])] [1] [2,0] rfl hacc,⟨h3,F2.step h4 h2,?_,S2.trans h4,⟨ms,?_,?_⟩,h2.trans J.same⟩,stk I2 S2 h4 hst2,by simpa using h1⟩
   ·exact li [_,_,i,_] [([1,3,0],[4,0]),([4,0],[2,3])] [1,0] [2] rfl (l_d (li [i,_] [([1],[2])] [1,0] [2,0] rfl hi)) (l_g _ _)
   ·obtain ⟨m,hm⟩:=hnC
    exact ⟨m,aK hm fun o e=>h4.kep.keep _ o e (I2.ghost_nl (.inr (.inr (.inr rfl))))⟩
   ·obtain ⟨z,hz⟩:=hpl2
    exact ⟨z,h4.kep.same hz (I2.ghost_nl (.inr (.inr (.inl rfl)))) fun es n q=>by cases q⟩
   ·exact hrl2.kept h4.kept
  | true=>
   simp only [if_true] at h₃ ⊢
   refine wpAny_mono h₃ (fun y s₄ h₄=>?_) fun _ _ e=>e
   obtain ⟨r,st',ρ',h1,h2,h3,h4,h5⟩:=h₄
   have hpl4:s₄.heap.PlainList D ms.toArray:=by
    obtain ⟨z,hz⟩:=hpl2
    exact ⟨z,h5.kep.same hz (I2.ghost_nl (.inr (.inr (.inl rfl)))) fun es n q=>by cases q⟩
   have hms:ms.length≤ay:=by rw [← hrl2.length]; have:=it.size; exact li [_,_,i,_] [([3],[4]),([1],[3]),([4],[2])] [1] [2] rfl hi hacc this
   refine wpAny_list_append_plain hpl4 (fun h₅ hl₅ hs₅=>?_) (by rw [bi,List.size_toArray]; exact hms)
   have k5: ∀ b o,b≠D→s₄.heap.get? b=some o→h₅.get? b=some o:=fun b o hb e=>hs₅.extBut b o hb e
   have K5:cG s₄.heap ρ' (Nl (G3 γ I D Cl) ρ' st'.H) h₅ ρ' (Nl (G3 γ I D Cl) ρ' st'.H):=bQ (s:=s₄) (s':={ s₄ with heap:=h₅ }) (a:=D) (.inr (.inr (.inl rfl))) k5
   refine ⟨_,?_,i+1,acc++[r],ρ',st',rfl,hlt,by simp; exact hacc,⟨h4.touch (a:=D) (.inr (.inr (.inl rfl))) (fun q=>gD (γ.bh _ q)) (fun q=>(gD (γ.fh _ q)).elim) k5 (cc hl₅) rfl rfl,(F2.step h5 h2).touch F₁ (.inr (.inr (.inl rfl))) gD k5,?_,
    (S2.trans h5).touch dD k5,⟨ms++[y],by simpa using hl₅,((hrl2.kept h5.kept).kept K5).append (.cons (h3.kept K5) .nil)⟩,h2.trans J.same⟩,stt (s:=s₄) (s':={ s₄ with heap:=h₅ }) dD nDI k5 (stk I2 S2 h5 hst2),h1⟩
   ·exact li [_,_,i,_] [([1,3,0],[4,0]),([4,0],[2,3])] [1,0] [2] rfl (l_d (li [i,_] [([1],[2])] [1,0] [2,0] rfl hi)) (l_g _ _)
   ·obtain ⟨m,hm⟩:=hnC
    exact ⟨m,aK hm fun o e=>by
     obtain ⟨o',e1,e2⟩:=h5.kep.keep _ o e (I2.ghost_nl (.inr (.inr (.inr rfl))))
     exact ⟨o',k5 _ o' (Ne.symm nDC) e1,e2⟩⟩
 ·have hin:i=items.length:=by exact l_a (hi) ((l_t hlt))
  subst hin
  rw [List.drop_length] at w
  have w:Kf acc st:=w
  refine W.done _ _ _ hst' fun h₁ tk₁ hk₁=>?_
  have k1: ∀ b o,b≠I→s'.heap.get? b=some o→h₁.get? b=some o:=fun b o hb e=>hk₁ b o (by simpa using hb) e
  obtain ⟨m,hm⟩:=J.ns
  obtain ⟨ms,hpl,hrl⟩:=J.acc
  have sub: ∀ b,(G2 γ D Cl).h b→(G3 γ I D Cl).h b:=fun b q=>q.imp id .inr
  have nI: ¬ (G2 γ D Cl).h I:=fun q=>by
   rcases q with q | q | q
   ·exact gI q
   ·exact nDI q.symm
   ·exact nCI q.symm
  have F2:Fra (G2 γ D Cl) env st₁ ρ₁ s₁:=⟨F₁.kind,F₁.glob,F₁.blt,F₁.nl,.inl F₁.own,by
   obtain ⟨m,h1,h2⟩:=F₁.ns
   exact ⟨m,h1,fun x v a b c=>let ⟨mv,e1,e2⟩:=h2 x v a b c; ⟨mv,e1,e2.kept ⟨fun _ o e _=>⟨o,e,.refl o⟩,fun a q=>by
    rcases q with q | q | q | q
    ·exact .inl (.inl q)
    ·exact .inl (.inr q)
    ·exact .inr (q▸dD)
    ·exact .inr (q▸dC),fun _ _ e=>e⟩⟩⟩,fun n hk=>by
   obtain ⟨c,ov,h1,h2,h3,h4⟩:=F₁.cell n hk
   exact ⟨c,ov,h1,⟨h2.1,.inl h2.2⟩,h3,fun y hy v q=>let ⟨mv,e1,e2⟩:=h4 y hy v q; ⟨mv,e1,e2.kept ⟨fun _ o e _=>⟨o,e,.refl o⟩,fun a q=>by
    rcases q with q | q | q | q
    ·exact .inl (.inl q)
    ·exact .inl (.inr q)
    ·exact .inr (q▸dD)
    ·exact .inr (q▸dC),fun _ _ e=>e⟩⟩⟩,F₁.apart,F₁.nb,fun n c h=>⟨.inl (F₁.nbc n c h).1,(F₁.nbc n c h).2⟩⟩
  refine fin acc ρ st _ ⟨J.inv.lose (a:=I) (.inr (.inl rfl)) (fun q=>gI (γ.bh _ q)) (fun _=>Iff.rfl) sub (fun _ q=>q) (fun _ q=>q) nI k1 rfl rfl,J.fra.lose F2 (.inr (.inl rfl)) sub nI k1,⟨m,hm.at' fun o e=>k1 _ o nCI e⟩,J.stp.touch dI k1,⟨ms,hpl.at fun o e=>k1 _ o nDI e,hrl.kept ?_⟩,J.same⟩ (by have:=it.size; exact li [_,_,_] [([1],[3]),([3],[2])] [1] [2] rfl hacc this) w
  exact eY (s:=s') (s':={ s' with heap:=h₁,toks:=tk₁ }) (a:=I) (.inr (.inl rfl)) sub k1
end
section
variable {C:Cx} {k:Nat} {γ γ':Gh} {env:Env} {A:Around} {ρ₀:List Addr} {st₀:St} {s₀:Shared} {ρ₁:List Addr} {st₁:St} {s₁:Shared} {ρ:List Addr} {st:St} {s s':Shared} {H:List HO} {E:Value→Shared→Prop}
theorem fF (g:bP s s') (hs: ∀ b,γ'.h b→γ.h b∨s.heap.get? b=none):cG s.heap ρ (Nl γ ρ H) s'.heap ρ (Nl γ' ρ H):=
 ⟨fun _ o e _=>⟨o,g.keep _ _ e,.refl o⟩,fun b q=>by
  rcases q with q | q
  ·exact .inl (.inl q)
  ·exact (hs b q).imp .inr id,fun _ _ e=>e⟩
theorem Inv.holds (I:Inv C γ ρ H s) (g:bP s s') (hs: ∀ b,γ'.h b→γ.h b∨(s.heap.get? b=none∧∃ o,s'.heap.get? b=some o)) (hf: ∀ b,γ'.f b→γ.f b∨∃ o es n,s'.heap.get? b=some o∧o.data=.dict es n) (he: ∀ b,γ'.e b→γ.e b) (hb: ∀ b,γ'.b b ↔ γ.b b):Inv C γ' ρ H s':=
 ⟨fun b o e=>g.keep _ _ (I.base b o e),I.len,I.nodup,I.fresh,fun b e=>let ⟨o,q⟩:=I.there b e; ⟨o,g.keep _ _ q⟩,
  fun i b o e1 e2=>(I.obj i b o e1 e2).kept (fF g fun b q=>(hs b q).imp id And.left) fun x hx=>g.keep _ _ hx,
  (fun b e q=>by
   rcases hs b q with q | ⟨q,_⟩
   ·exact (hb b).mpr (I.apart b e q)
   ·obtain ⟨o,x⟩:=I.there b e; rw [q] at x; cases x),(fun i b o e1 q e2=>I.bor i b o e1 ((hb b).mp q) e2),
  (fun b q=>by
   rcases hs b q with q | ⟨_,q⟩
   ·obtain ⟨o,e⟩:=I.held b q; exact ⟨o,g.keep _ _ e⟩
   ·exact q),
  (fun b q=>by
   rcases hs b q with q | ⟨q,_⟩
   ·exact I.off b q
   ·exact I.none_above q),(fun b q=>by
   rcases hf b q with q1 | q2
   ·obtain ⟨o,es,n,e,d⟩:=I.frm b q1
    exact ⟨o,es,n,g.keep _ _ e,d⟩
   ·exact q2),(fun b q=>by
   obtain ⟨⟨o,vs,e,d⟩,l,nh⟩:=I.hdl b (he b q)
   refine ⟨⟨o,vs,g.keep _ _ e,d⟩,l,fun z=>?_⟩
   rcases hs b z with z | ⟨z,_⟩
   ·exact nh z
   ·rw [e] at z; cases z),(fun z b q=>I.hq z b (he b q)),g.gens.trans I.gens,g.os.trans I.os⟩
theorem Fra.holds (F:Fra γ env st ρ s) (I:Inv C γ ρ st.H s) (g:bP s s') (sub: ∀ b,γ.h b→γ'.h b) (hs: ∀ b,γ'.h b→γ.h b∨s.heap.get? b=none) (hb: ∀ b,γ'.b b→γ.b b):Fra γ' env st ρ s':=
 F.kept (fF g hs) rfl sub (fun _ o _ e=>⟨o,g.keep _ _ e,.refl o⟩) (fun _ q=>I.ghost_nl q) hb
theorem ed {k:Nat} {elt iter:Expr} {x:String} {px pos:Pos} {ifs:List Expr} {cs:Scope} {items:List V} {f:V→St→(List V→St→Prop)→Prop} {Kf:List V→St→Prop} {mi:Value}
  {RR:Value→Addr→Result→Shared→Prop} (hnm:cQ cs env x) (T:wQ C A γ cs env x ifs elt f) (hr:bO (2*k+1) A γ) (J:Inv C γ ρ st.H s) (F:Fra γ env st ρ s) (hit:wpAny C.M A (pyIter mi) (gM C A (Off γ ρ st.H) (Nl γ ρ st.H) ρ s items) E s)
  (w:fK f items [] st Kf)
  (fin: ∀ D Cl acc ρ' st' s',s.heap.get? D=none→s.heap.get? Cl=none→D≠Cl→¬ γ.h D→¬ γ.h Cl→jv C (G2 γ D Cl) env ρ st s D Cl acc ρ' st' s'→acc.length≤ay→Kf acc st'→RR (.ref D) Cl (.ok .next) s'):
  wpAny C.M A (pyIter mi) (fun it s₂=>wpAny C.M A (newList []) (fun acc s₃=>wpAny C.M A (newFunctionEnv cs env.globals (ga env cs.names []) [] env.qual none .none (some env)) (fun cenv s₄=>
   codeAny C.M A (.compStart (.ListComp elt [⟨.Name (x:Str) px,iter,ifs,0⟩] cs pos) 0 it acc { cenv with scope:=relabel cs env }) (RR acc cenv.locals) s₄) E s₃) E s₂) E s:=by
 refine wpAny_mono hit (fun it s₂ h=>?_) fun _ _ x=>x
 obtain ⟨I,fp,P,St',rfl,dI,g,hst,itr⟩:=h
 have eI: ∃ o,s₂.heap.get? I=some o:=let ⟨o,e,_⟩:=itr.has _ _ hst; ⟨o,e⟩
 refine wpAny_newObj_type (wpAny_newFunctionEnv (fun p hp=>hnm.nocell p hp) (by intro y hy; simp at hy) (fun h₁ hns₁ hsb₁=>?_) hnm.kind)
 dsimp only at hns₁ hsb₁ ⊢
 generalize hH2:s₂.heap.push { cls:=.type "list",dict:=none,data:=.seq ([]:List Value).toArray }=H2 at hns₁ hsb₁ ⊢
 have hC:H2.objs.size=s₂.heap.objs.size+1:=by rw [← hH2,Heap.size_push]
 have hDC:s₂.heap.objs.size≠H2.objs.size:=by rw [hC]; exact Nat.ne_of_lt (Nat.lt_succ_self _)
 have dD2:s₂.heap.get? s₂.heap.objs.size=none:=aJ _
 have above: ∀ b,s₂.heap.objs.size≤b→s₂.heap.get? b=none:=fun b hb=>by
  cases e:s₂.heap.get? b with
  | none=>rfl
  | some o'=>exact absurd (Heap.lt_size e) (Nat.not_lt.mpr hb)
 have dC2:s₂.heap.get? H2.objs.size=none:=above _ (by rw [hC]; exact Nat.le_succ _)
 have up: ∀ {b:Addr},s₂.heap.get? b=none→s.heap.get? b=none:=fun {b} hb=>by
  cases e:s.heap.get? b with
  | none=>rfl
  | some o=>rw [g.keep _ _ e] at hb; cases hb
 have old: ∀ b o,s₂.heap.get? b=some o→h₁.get? b=some o:=fun b o e=>by
  have hb:=Heap.lt_size e
  exact hsb₁.extBut b o (by rw [hC]; exact Nat.ne_of_lt (Nat.lt_succ_of_lt hb)) (Heap.get?_push_of_some _ (hH2▸Heap.get?_push_of_some _ e))
 have hacc:h₁.PlainList s₂.heap.objs.size #[]:=⟨_,hsb₁.extBut _ _ hDC (Heap.get?_push_of_some _ (hH2▸Heap.get?_push_size _ rfl))⟩
 have nDI:s₂.heap.objs.size≠I:=fun q=>by obtain ⟨o,e⟩:=eI; rw [← q,dD2] at e; cases e
 have nCI:H2.objs.size≠I:=fun q=>by obtain ⟨o,e⟩:=eI; rw [← q,dC2] at e; cases e
 generalize hs3:({ s₂ with heap:=h₁,toks:=s₂.toks+([]:List (Str×Value)).length }:Shared)=s₃
 have e3:s₃.heap=h₁:=by rw [← hs3]
 have g3:bP s s₃:=g.trans ⟨by rw [e3]; exact old,by rw [← hs3],by rw [← hs3]⟩
 have eI3: ∃ o,s₃.heap.get? I=some o:=let ⟨o,e⟩:=eI; ⟨o,by rw [e3]; exact old _ _ e⟩
 have eD3: ∃ o,s₃.heap.get? s₂.heap.objs.size=some o:=by rw [e3]; exact cc hacc
 have eC3: ∃ o,s₃.heap.get? H2.objs.size=some o:=by rw [e3]; exact cx hns₁
 have hs: ∀ b,(G3 γ I s₂.heap.objs.size H2.objs.size).h b→γ.h b∨(s.heap.get? b=none∧∃ o,s₃.heap.get? b=some o):=fun b q=>by
  rcases q with q | rfl | rfl | rfl
  ·exact .inl q
  ·exact .inr ⟨dI,eI3⟩
  ·exact .inr ⟨up dD2,eD3⟩
  ·exact .inr ⟨up dC2,eC3⟩
 have hst3:St' 0 s₃.heap:=itr.walks.frame _ _ _ hst fun b _ o e=>by rw [e3]; exact old b o e
 have loop:codeAny C.M A (.compLoop (.ListComp elt [⟨.Name (x:Str) px,iter,ifs,0⟩] cs pos) 0 (.ref I) (.ref s₂.heap.objs.size) (compEnvC cs (ga env cs.names []) H2.objs.size env))
   (RR (.ref s₂.heap.objs.size) H2.objs.size) s₃:=by
  refine rO hnm T F itr dI (up dD2) (up dC2) nDI nCI hDC (J.ghost_new dI) (J.ghost_new (up dD2)) (J.ghost_new (up dC2))
   ⟨J.holds g3 hs (fun _ q=>.inl q) (fun _ q=>q) (fun _=>Iff.rfl),F.holds J g3 (fun _=>.inl) (fun b q=>(hs b q).imp id And.left) (fun _ q=>q),⟨_,by rw [e3]; exact hns₁⟩,g3.stp,⟨[],by rw [e3]; exact hacc,.nil⟩,rfl⟩ hst3 w ?_
  intro acc ρ' st' s' h1 h2 h3
  exact fin _ _ acc ρ' st' s' (up dD2) (up dC2) hDC (J.ghost_new (up dD2)) (J.ghost_new (up dC2)) h1 h2 h3
 exact codeAny_compStart_list loop (itr.walks.self 0 _ _ _ hst3 loop)
theorem Inv.adopt {a:Addr} {o:HO} (I:Inv C γ' ρ H s) (ha:γ'.h a) (sub: ∀ b,γ.h b→γ'.h b) (hf: ∀ b,γ.f b→γ'.f b) (he: ∀ b,γ.e b→γ'.e b) (hbb: ∀ b,γ.b b ↔ γ'.b b) (hn: ¬ γ.h a) (nb: ¬ γ.b a) (ho:o.isLive=true)
  (r:cG s.heap ρ (Nl γ' ρ H) s.heap (ρ++[a]) (Nl γ (ρ++[a]) (H++[o]))→tO C s.heap (ρ++[a]) (Nl γ (ρ++[a]) (H++[o])) o a):Inv C γ (ρ++[a]) (H++[o]) s:=by
 have k:cG s.heap ρ (Nl γ' ρ H) s.heap (ρ++[a]) (Nl γ (ρ++[a]) (H++[o])):=
  ⟨fun _ x e _=>⟨x,e,.refl x⟩,fun b q=>by
   rcases q with q | q
   ·rcases fM I.len q with q | q
    ·exact .inl (.inl q)
    ·exact .inl (.inr (q▸ha))
   ·exact .inl (.inr (sub b q)),fun i b e=>by rw [List.getElem?_append_left (List.getElem?_eq_some_iff.mp e).1]; exact e⟩
 refine ⟨I.base,by simp [I.len],?_,?_,?_,?_,?_,?_,fun b q=>I.held b (sub b q),fun b q=>I.off b (sub b q),(fun b q=>I.frm b (hf b q)),(fun b q=>let ⟨x,l,nh⟩:=I.hdl b (he b q); ⟨x,fun z=>(fM I.len z).elim l fun z=>nh (z▸ha),fun z=>nh (sub b z)⟩),(fun z b q=>I.hq (hU z) b (he b q)),I.gens,I.os⟩
 ·refine List.nodup_append.mpr ⟨I.nodup,by simp,fun x hx y hy q=>?_⟩
  simp at hy; subst hy; subst q
  exact nb ((hbb _).mpr (I.apart _ hx ha))
 ·intro b hb
  rcases List.mem_append.mp hb with h | h
  ·exact I.fresh b h
  ·simp at h; subst h; exact I.off _ ha
 ·intro b hb
  rcases List.mem_append.mp hb with h | h
  ·exact I.there b h
  ·simp at h; subst h; exact I.held _ ha
 ·intro i b x e1 e2
  rcases Nat.lt_trichotomy i ρ.length with h | h | h
  ·rw [List.getElem?_append_left h] at e1
   rw [List.getElem?_append_left (I.len▸h)] at e2
   exact (I.obj i b x e1 e2).kept k fun y hy=>hy
  ·subst h
   rw [List.getElem?_append_right (Nat.le_refl _)] at e1
   rw [I.len,List.getElem?_append_right (Nat.le_refl _)] at e2
   simp at e1 e2
   subst e1; subst e2
   exact r k
  ·have:(ρ++[a])[i]?= none:=List.getElem?_eq_none (by rw [List.length_append,List.length_singleton]; exact h)
   rw [this] at e1; cases e1
 ·intro b hb q
  rcases List.mem_append.mp hb with h | h
  ·exact (hbb b).mpr (I.apart b h (sub b q))
  ·simp at h; subst h; exact absurd q hn
 ·intro i b x e1 q e2
  rcases Nat.lt_trichotomy i ρ.length with h | h | h
  ·rw [List.getElem?_append_left h] at e1
   rw [List.getElem?_append_left (I.len▸h)] at e2
   exact I.bor i b x e1 ((hbb b).mp q) e2
  ·subst h
   rw [List.getElem?_append_right (Nat.le_refl _),Nat.sub_self] at e1
   cases e1; exact absurd q nb
  ·rw [List.getElem?_eq_none (by rw [List.length_append,List.length_singleton]; exact h)] at e1; cases e1
theorem kg {D Cl:Addr} {acc:List V} {Q:V→St→Prop} {h':Heap} (F₁:Fra γ env st₁ ρ₁ s₁) (dD:s₁.heap.get? D=none) (dC:s₁.heap.get? Cl=none) (nDC:D≠Cl) (gD: ¬ γ.h D) (gC: ¬ γ.h Cl)
  (J:jv C (G2 γ D Cl) env ρ₁ st₁ s₁ D Cl acc ρ st s) (hl:acc.length≤ay) (w:kO acc st Q) (hs:Heap.SameBut Cl s.heap h'):
  ek C γ ρ₁ st₁ s₁ Q (.ref D) { s with heap:=h' }:=by
 have k1: ∀ b o,b≠Cl→s.heap.get? b=some o→h'.get? b=some o:=fun b o hb e=>hs.extBut b o hb e
 obtain ⟨ms,hpl,hrl⟩:=J.acc
 have sub: ∀ b,(ef γ D).h b→(G2 γ D Cl).h b:=fun b q=>q.imp id .inl
 have nC: ¬ (ef γ D).h Cl:=fun q=>q.elim gC fun q=>nDC q.symm
 have I1:Inv C (ef γ D) ρ st.H ({ s with heap:=h' }:Shared):=J.inv.lose (a:=Cl) (.inr (.inr rfl)) (fun q=>gC (γ.bh _ q)) (fun _=>Iff.rfl) sub (fun _ q=>q) (fun _ q=>q) nC k1 rfl rfl
 have K1:cG s.heap ρ (Nl (G2 γ D Cl) ρ st.H) h' ρ (Nl (ef γ D) ρ st.H):=eY (s:=s) (s':={ s with heap:=h' }) (a:=Cl) (.inr (.inr rfl)) sub k1
 have S1:Stp ρ₁ st₁.H s₁ ρ st.H ({ s with heap:=h' }:Shared):=J.stp.touch dC k1
 have hpl1:h'.PlainList D ms.toArray:=hpl.at fun o e=>k1 _ o nDC e
 have hrl1:=hrl.kept K1
 have nl: ¬ Nl γ ρ st.H D:=fun q=>q.elim (I1.ghost_nl (.inr rfl)) gD
 rcases w with w | w
 ·have I2:Inv C γ ρ st.H ({ s with heap:=h' }:Shared):=I1.drop (fun _=>.inl) (fun _ q=>q) (fun _ q=>q) (fun _=>Iff.rfl)
  exact ⟨_,st,ρ,w,J.same,.lst hpl1 nl hl (hrl1.kept (dB (γ:=γ) (γ':=ef γ D) (s:={ s with heap:=h' }) fun _=>.inl)),I2,S1⟩
 ·refine ⟨_,_,ρ++[D],w,J.same,.loc (by rw [← I1.len]; simp),I1.adopt (.inr rfl) (fun _=>.inl) (fun _ q=>q) (fun _ q=>q) (fun _=>Iff.rfl) gD (fun q=>gD (γ.bh _ q)) rfl fun kp=>⟨ms,hpl1,hrl1.kept kp,hl⟩,⟨⟨S1.kep.keep,fun b q=>?_,fun i b e=>?_⟩⟩⟩
  ·rcases fM I1.len q with q | q
   ·exact S1.kep.live b q
   ·exact .inr (q▸dD)
  ·have:=S1.kep.pre i b e
   rw [List.getElem?_append_left (List.getElem?_eq_some_iff.mp this).1]; exact this
end
section
variable {C:Cx} {k:Nat} {γ:Gh} {env:Env} {A:Around}
theorem eO {ρ:List Addr} {st:St} {s:Shared} {ev:Value} {s':Shared} {E:Value→Shared→Prop} (p:bA C γ ρ st s (fun _ _=>False) ev s'):E ev s':=by
 obtain ⟨_,_,_,h,_⟩:=p; exact h.elim
noncomputable def BJ (Φ:Orc) (G:String→Option V) (elt:E) (x:String):V→St→(List V→St→Prop)→Prop:=
 fun v st₁ K=>wE Φ G elt (st₁.set x v) (fun r st'=>K [r] ⟨st₁.s,st'.H⟩) fun _ _=>False
noncomputable def wy (Φ:Orc) (G:String→Option V) (elt:E) (x:String) (c:E):V→St→(List V→St→Prop)→Prop:=
 fun v st₁ K=>wE Φ G c (st₁.set x v) (fun b st'=>(b=.bool true∧wE Φ G elt st' (fun r st'=>K [r] ⟨st₁.s,st'.H⟩) fun _ _=>False)∨(b=.bool false∧K [] ⟨st₁.s,st'.H⟩)) fun _ _=>False
theorem gS {elt:E} {x:String} {cs:Scope} {pelt:Expr} (he:SE C k (du cs env.scope) elt pelt) (hr:bO (2*k+1) A γ):wQ C A γ cs env x [] pelt (BJ (Calls C k) C.glo elt x):=by
 intro γ' hf hfe Cl s ρ st v Kf E I F w
 show wpAny C.M A (pure true) _ _ s
 refine wpAny_pure ?_
 rw [if_pos rfl]
 refine wpAny_mono (he (compEnvC cs (ga env cs.names []) Cl env) A s γ' ρ (st.set x v) _ _ rfl (hr.more hf hfe) I F w) (fun y s₄ p=>?_) fun _ _ p=>eO p
 obtain ⟨r,st',ρ',h1,h2,h3,h4,h5⟩:=p
 exact ⟨r,⟨st.s,st'.H⟩,ρ',h1,rfl,h3,h4,h5⟩
theorem gR {elt c:E} {x:String} {cs:Scope} {pelt pc:Expr} (he:SE C k (du cs env.scope) elt pelt) (hc:ST C k (du cs env.scope) c pc) (hr:bO (2*k+1) A γ):
  wQ C A γ cs env x [pc] pelt (wy (Calls C k) C.glo elt x c):=by
 intro γ' hf hfe Cl s ρ st v Kf E I F w
 rw [List.forIn_cons]
 simp only [if_true]
 have w':wT (Calls C k) C.glo c (st.set x v) (fun b st'=>(b=true∧wE (Calls C k) C.glo elt st' (fun r st'=>Kf [r] ⟨st.s,st'.H⟩) fun _ _=>False)∨(b=false∧Kf [] ⟨st.s,st'.H⟩)) (fun _ _=>False):=by
  have e:(fun (b:V) (st':St)=>(b=.bool true∧wE (Calls C k) C.glo elt st' (fun r st'=>Kf [r] ⟨st.s,st'.H⟩) fun _ _=>False)∨(b=.bool false∧Kf [] ⟨st.s,st'.H⟩))=
    fun v st'=>∃ b,v=.bool b∧((b=true∧wE (Calls C k) C.glo elt st' (fun r st'=>Kf [r] ⟨st.s,st'.H⟩) fun _ _=>False)∨(b=false∧Kf [] ⟨st.s,st'.H⟩)):=by
   funext v st'
   refine propext ⟨?_,?_⟩
   ·rintro (⟨rfl,h⟩ | ⟨rfl,h⟩)
    ·exact ⟨true,rfl,.inl ⟨rfl,h⟩⟩
    ·exact ⟨false,rfl,.inr ⟨rfl,h⟩⟩
   ·rintro ⟨b,rfl,⟨rfl,h⟩ | ⟨rfl,h⟩⟩
    ·exact .inl ⟨rfl,h⟩
    ·exact .inr ⟨rfl,h⟩
  show wE _ _ _ _ _ _
  rw [← e]; exact w
 refine wpAny_bind (wpAny_bind (wpAny_mono (hc (compEnvC cs (ga env cs.names []) Cl env) A s γ' ρ (st.set x v) _ _ rfl (hr.more hf hfe) I F w') (fun ok s₃ p=>wpAny_pure ?_) fun _ _ p=>eO p))
 show wpAny C.M A (pure ok) _ _ s₃
 refine wpAny_pure ?_
 obtain ⟨st',ρ',h1,h2,h4,h5⟩:=p
 rcases h1 with ⟨rfl,h1⟩ | ⟨rfl,h1⟩
 ·rw [if_pos rfl]
  refine wpAny_mono (he (compEnvC cs (ga env cs.names []) Cl env) A s₃ γ' ρ' st' _ _ rfl (hr.more hf hfe) h4 (F.step h5 h2) h1) (fun y s₄ p=>?_) fun _ _ p=>eO p
  obtain ⟨r,st'',ρ'',g1,g2,g3,g4,g5⟩:=p
  exact ⟨r,⟨st.s,st''.H⟩,ρ'',g1,rfl,g3,g4,h5.trans g5⟩
 ·exact ⟨⟨st.s,st'.H⟩,ρ',h1,rfl,h4,h5⟩
theorem cZ {pe:Expr} {env:Env} (h:bE pe=false) (x:Value):foldedSetIterable pe env x=pure x:=by
 cases pe<;>first | rfl | cases h
theorem nv {it:E} {pelt pit:Expr} {x:String} {px pos:Pos} {ifs:List Expr} {cs:Scope} {f:V→St→(List V→St→Prop)→Prop} {s:Shared} {ρ:List Addr} {st:St} {Q:V→St→Prop} {X:String→St→Prop}
  (hi:SE C k env.scope it pit) (hco:dp cs env.scope x=true) (hset:bE pit=false) (T:wQ C A γ cs env x ifs pelt f) (hr:bO (2*k+1) A γ) (I:Inv C γ ρ st.H s) (F:Fra γ env st ρ s)
  (w:wE (Calls C k) C.glo it st (fun vi st=>∃ items,dQ vi items∧fK f items [] st fun out st=>kO out st Q) X):
  wpAny C.M A (eval (.ListComp pelt [⟨.Name (x:Str) px,pit,ifs,0⟩] cs pos) env) (ek C γ ρ st s Q) (bA C γ ρ st s X) s:=by
 have hnm:=dH hco
 rw [eval_ListComp]
 refine wpAny_comprehension_free (use:=none) rfl (fun v=>cZ hset v) (hnm.closure F) hnm.kind (fun p hp h=>hnm.loc p hp h)
  (hi.at rfl hr (At.start I F) w fun mi s₁ vi st₁ ρ₁ w₁ r₁ a₁ S₁=>?_)
 obtain ⟨items,e,w₁⟩:=w₁
 refine ed (RR:=fun acc C'=>compPost C.M A (bA C γ ρ st s X) none (ek C γ ρ st s Q) acc C') hnm T hr a₁.inv a₁.fra (eT hr a₁.inv r₁ e) w₁ ?_
 intro D Cl acc ρ' st' s' dD dC nDC gD gC J hl w'
 obtain ⟨m,hm⟩:=J.ns
 exact ⟨m,hm,fun h' hs=>a₁.thenPost (kg a₁.fra dD dC nDC gD gC J hl w' hs)⟩
theorem vx {sc:Scope} {elt it:E} {x:String} {pelt pit:Expr} {px pos:Pos} {cs:Scope} (hco:dp cs sc x=true) (hset:bE pit=false) (he:SE C k (du cs sc) elt pelt) (hi:SE C k sc it pit):SE C k sc (.comp elt x it) (.ListComp pelt [⟨.Name (x:Str) px,pit,[],0⟩] cs pos):=by
 rintro env A s γ ρ st Q X rfl hr I F w
 exact nv hi hco hset (gS he hr) hr I F w
theorem sR {sc:Scope} {elt it:E} {x:String} {pelt pit:Expr} {px pos:Pos} {cs:Scope} (hco:dp cs sc x=true) (hset:bE pit=false) (he:SE C k (du cs sc) elt pelt) (hi:SE C k sc it pit):SE C k sc (.compX elt x it) (.ListComp pelt [⟨.Name (x:Str) px,pit,[],0⟩] cs pos):=by
 rintro env A s γ ρ st Q X rfl hr I F w
 have hnm:=dH hco
 have T:=gS (A:=A) (γ:=γ) (env:=env) (x:=x) (cs:=cs) he hr
 rw [eval_ListComp]
 refine wpAny_comprehension_free (use:=none) rfl (fun v=>cZ hset v) (hnm.closure F) hnm.kind (fun p hp h=>hnm.loc p hp h)
  (hi.at rfl hr (At.start I F) w fun mi s₁ vi st₁ ρ₁ w₁ r₁ a₁ S₁=>?_)
 rcases w₁ with ⟨items,e,w₁⟩ | ⟨i,items,rfl,hH,w₁⟩
 ·refine ed (RR:=fun acc C'=>compPost C.M A (bA C γ ρ st s X) none (ek C γ ρ st s Q) acc C') hnm T hr a₁.inv a₁.fra (eT hr a₁.inv r₁ e) w₁ ?_
  intro D Cl acc ρ' st' s' dD dC nDC gD gC J hl w'
  obtain ⟨m,hm⟩:=J.ns
  exact ⟨m,hm,fun h' hs=>a₁.thenPost (kg a₁.fra dD dC nDC gD gC J hl w' hs)⟩
 ·obtain ⟨a,rfl,ha⟩:=r₁.loc_inv
  have I₁:=a₁.inv
  have F₁:=a₁.fra
  obtain ⟨ms,hpl,hrl,hlen⟩:=I₁.obj i _ _ ha hH
  have kp:cG s₁.heap ρ₁ (Nl γ ρ₁ st₁.H) s₁.heap ρ₁ (Nl (oE γ a) ρ₁ (st₁.H.set i .dead)):=⟨fun _ o e _=>⟨o,e,.refl o⟩,fun b q=>.inl ((qU I₁ ha hH b).mp q),fun _ _ e=>e⟩
  have hr':bO (2*k+1) A (oE γ a):=hr.more (fun _ q=>q) fun _ q=>q
  refine ed (st:=⟨st₁.s,st₁.H.set i .dead⟩) (γ:=oE γ a) (RR:=fun acc C'=>compPost C.M A (bA C γ ρ st s X) none (ek C γ ρ st s Q) acc C') hnm T hr' (I₁.lend ha hH) (F₁.lend I₁ ha hH)
   (kY (H:=st₁.H.set i .dead) (γ:=oE γ a) hr' (I₁.lend ha hH) hpl (fun q=>q.elim (fun q=>(cY I₁ ha a q).2 rfl) fun q=>q.2 (.inr rfl)) hlen (hrl.kept kp)) w₁ ?_
  intro D Cl acc ρ' st' s' dD dC nDC gD gC J hl w'
  obtain ⟨m,hm⟩:=J.ns
  exact ⟨m,hm,fun h' hs=>a₁.thenPost ((kg (F₁.lend I₁ ha hH) dD dC nDC gD gC J hl w' hs).unlend I₁ ha hH)⟩
theorem kE {sc:Scope} {elt it c:E} {x:String} {pelt pit pc:Expr} {px pos:Pos} {cs:Scope} (hco:dp cs sc x=true) (hset:bE pit=false) (he:SE C k (du cs sc) elt pelt) (hi:SE C k sc it pit) (hc:ST C k (du cs sc) c pc):SE C k sc (.compIf elt x it c) (.ListComp pelt [⟨.Name (x:Str) px,pit,[pc],0⟩] cs pos):=by
 rintro env A s γ ρ st Q X rfl hr I F w
 exact nv hi hco hset (gR he hc hr) hr I F w
end
end
noncomputable section
open PySem PyProof.Rows PySem.W
section
variable {γ:Gh} {C:Cx} {k:Nat} {sc:Scope} {env:Env} {A:Around} {ρ₀:List Addr} {st₀:St} {s₀:Shared} {ρ ρ':List Addr} {H H':List HO} {st:St} {s s':Shared} {X:String→St→Prop}
theorem og {α:Type} {l:List α} {n i:Nat} {a:α} (h:(l.take n)[i]?= some a):l[i]?= some a:=by
 rw [List.getElem?_take] at h
 split at h
 ·exact h
 ·cases h
theorem dm {n:Nat} {a:Addr} (h:Lv (ρ.take n) (H.take n) a):Lv ρ H a:=by
 obtain ⟨i,o,h1,h2,h3⟩:=h
 rw [List.getElem?_take] at h1 h2
 split at h1
 ·rename_i hi
  rw [if_pos hi] at h2
  exact ⟨i,o,h1,h2,h3⟩
 ·cases h1
theorem Inv.cut {n:Nat} (I:Inv C γ ρ H s) (hz:ak (H.take n)→∀ a,¬ γ.e a) (hl: ∀ (i:Nat) o,i < n→H[i]?= some o→lowO n o):Inv C γ (ρ.take n) (H.take n) s:=by
 refine ⟨I.base,by simp [I.len],I.nodup.sublist (List.take_sublist n ρ),fun a h=>I.fresh a (List.mem_of_mem_take h),fun a h=>I.there a (List.mem_of_mem_take h),fun i a o h1 h2=>?_,fun a h=>I.apart a (List.mem_of_mem_take h),fun i a o h1 q h2=>I.bor i a o (og h1) q (og h2),I.held,I.off,I.frm,(fun b q=>let ⟨x,l,nh⟩:=I.hdl b q; ⟨x,fun z=>l (dm z),nh⟩),hz,I.gens,I.os⟩
 rw [List.getElem?_take] at h1 h2
 split at h1
 ·rename_i hi
  rw [if_pos hi] at h2
  have:=I.obj i a o h1 h2
  have hlo:=hl i o hi h2
  have cN: ∀ a,Nl γ (ρ.take n) (H.take n) a→Nl γ ρ H a:=fun a q=>q.imp dm id
  cases o with
  | list vs=>
   obtain ⟨ms,q1,q2,q3⟩:=this
   exact ⟨ms,q1,q2.cut cN hlo,q3⟩
  | inst _=>exact this
  | obj j=>
   obtain ⟨q0,d,q1,q2⟩:=this
   exact ⟨q0,d,by rw [List.getElem?_take,if_pos (show j < n from hlo)]; exact q1,q2⟩
  | attrs fs=>
   obtain ⟨es,m,q1,q2⟩:=this
   exact ⟨es,m,q1,q2.cut cN hlo⟩
  | dictS kvs=>
   obtain ⟨ms,q1,q2,q3⟩:=this
   exact ⟨ms,q1,q2.cut cN hlo,q3⟩
  | dead=>trivial
 ·cases h1
theorem Inv.lowO (I:Inv C γ ρ H s) {i:Nat} {o:HO} (h:H[i]?= some o):Mine.lowO H.length o:=by
 have hi:i < ρ.length:=by rw [I.len]; exact (List.getElem?_eq_some_iff.mp h).1
 have:=I.obj i _ o (List.getElem?_eq_getElem hi) h
 rw [← I.len]
 cases o with
 | list vs=>obtain ⟨ms,q1,q2,q3⟩:=this; exact q2.lows
 | inst _=>trivial
 | obj j=>obtain ⟨_,d,q1,_⟩:=this; exact (List.getElem?_eq_some_iff.mp q1).1
 | attrs fs=>obtain ⟨es,m,q1,q2⟩:=this; exact q2.lows
 | dictS kvs=>obtain ⟨ms,q1,q2,q3⟩:=this; exact q2.lows
 | dead=>trivial
theorem Stp.cut {n:Nat} (S:Stp ρ H s ρ' H' s') (hn:ρ.length≤n):Stp ρ H s (ρ'.take n) (H'.take n) s':=
 ⟨⟨S.kep.keep,fun a q=>S.kep.live a (dm q),fun i a e=>by
  rw [List.getElem?_take,if_pos (by have:=(List.getElem?_eq_some_iff.mp e).1; exact li [i,n,_] [([3],[2]),([1,0],[3])] [1,0] [2] rfl hn this)]; exact S.kep.pre i a e⟩⟩
theorem nK {v:V} {m:Value} {j:Nat} {fs:List (String×V)} (I:Inv C γ ρ H s) (r:Rel s.heap ρ (Nl γ ρ H) v m) (h:fn H v j fs):
  wV C.base C.mg C.K C.cls C.meths C.ats C.fa∧∃ x d es n,m=.ref x∧(ρ[j]?= some d∧H[j]?= some (.attrs fs))∧s.heap.get? d=some (dictOf es n)∧iO s.heap ρ (Nl γ ρ H) fs es∧InstAt s.heap x (instObj C.cls d) C.cls (some (dictOf es n)):=by
 cases h with
 | mk h1 h2=>
  obtain ⟨x,rfl,hx⟩:=r.loc_inv
  obtain ⟨hm,d,hd,ho⟩:=I.obj _ x _ hx h1
  obtain ⟨es,n,g1,g2⟩:=I.obj _ d _ hd h2
  exact ⟨C.hcls hm,x,d,es,n,rfl,⟨hd,h2⟩,g1,g2,⟨ho,rfl,rfl,g1⟩⟩
theorem Inv.frag (I:Inv C γ ρ H s) {K:Frag} (h:K.In C.base):K.In s.heap:=fun a o q=>I.base a o (h a o q)
theorem vt {a:E} {pa:Expr} {p p' q:Pos} (hm:C.meths≠[]) (hk:ce sc "isinstance" =true) (hk':ce sc "Store" =true) (hh:bq pa=true) (ha:SE C k sc a pa):SE C k sc (.isiS a) (.Call (.Name ("isinstance" :String) p) [pa,.Name (("Store" :String):Str) p'] [] q):=fun env A s γ ρ st Q X hs hr I F w=>
 uf hk hh rfl ha hs hr I F w (fun I F h=>gA I F (C.hcls hm).glo (hs▸hk') h) fun mv s' v st' ρ' w' r' a'=>by
  obtain ⟨j,fs,o,hQ⟩:=w'
  obtain ⟨cl,x,d,es,n,rfl,_,g1,g2,inst⟩:=nK a'.inv r' o
  have e:=cl.isi
  simp only [mB,Bool.and_eq_true,beq_iff_eq] at e
  obtain ⟨⟨⟨⟨⟨⟨e1,e2⟩,e3⟩,e4⟩,e5⟩,e6⟩,e7⟩:=e
  exact ⟨true,hQ,kia_one (kitx_own e1 e2 e3 e4 e5 e6) (a'.inv.frag cl.inn) inst e7 (fun z=>by cases z) fun tk=>⟨.bool _,tk,rfl⟩⟩
theorem zg {h:Heap} {N:Addr→Prop} {v:V} {m:Value} (r:Rel h ρ N v m):handedIn m=true:=by cases r<;>rfl
theorem vB {a:E} {x:String} {pa:Expr} {p:Pos} (hh:bq pa=true) (hx:x∈C.ats) (ha:SE C k sc a pa):SE C k sc (.attr a x) (.Attribute pa (x:Str) p):=fun env A s γ ρ st Q X hs hr I F w=>by
 rw [arm_eval_Attribute,mS hh]
 refine wpAny_bind (ha.at hs hr (At.start I F) w fun ma s₁ va st₁ ρ₁ w₁ r₁ a₁ S₁=>?_)
 obtain ⟨j,fs,u,ho,hl,hQ⟩:=w₁
 obtain ⟨cl,x',d,es,n,rfl,hd,g1,g2,inst⟩:=nK a₁.inv r₁ ho
 have g:=g2.get x
 rw [hl] at g
 obtain ⟨mv,g3,g4⟩:=g
 refine wpAny_bind (wpAny_standAt (wpAny_bind (wpAny_holding (get_value (a₁.inv.frag cl.inn) inst cl.get.1 (findObj_own cl.hasD (cl.attr x hx) rfl g3) (zg g4) ?_))))
 exact wpAny_bind (wpAny_letTemporaryGo (wpAny_pure ((a₁.grew (bP.toks _ _)).post hQ g4)))
theorem wz {f:String} {fa:Addr} {vs:List V} {ms:List Value} {W:Prop} {Q:V→St→Prop} (hr:bO (2*k) A γ) (hfa:C.fa f=some fa) (a:At C γ env ρ₀ st₀ s₀ ρ st s) (r:aI s.heap ρ (Nl γ ρ st.H) vs ms)
  (w:(∃ v H',Calls C k f vs st.H (.ok v) H'∧Q v ⟨st.s,H'⟩)∨∃ c H',Calls C k f vs st.H (.err c) H'∧X c ⟨st.s,H'⟩):wpAny C.M A (call (.ref fa) ms) (ek C γ ρ₀ st₀ s₀ Q) (bA C γ ρ₀ st₀ s₀ X) s:=by
 rcases w with ⟨v,H',hc,hQ⟩ | ⟨c,H',hc,hX⟩
 ·refine wpAny_call (codeAny_mono (hc A s γ ρ ms fa hr a.inv r hfa) fun res s' p=>?_)
  cases res with
  | error e=>exact p.elim
  | ok fl=>
   cases fl<;>first | exact p.elim | skip
   obtain ⟨ρ',p1,p2,p3⟩:=p
   exact ⟨v,_,ρ',hQ,a.same,p1,p2,a.stp.trans p3⟩
 ·refine wpAny_call (codeAny_mono (hc A s γ ρ ms fa hr a.inv r hfa) fun res s' p=>?_)
  cases res with
  | ok fl=>cases fl<;>exact p.elim
  | error e=>
   obtain ⟨ρ',p1,p2,p3⟩:=p
   exact ⟨c,_,ρ',hX,a.same,p1.back (a.stp.back a.inv),p2,a.stp.trans p3⟩
theorem sQ {f m:String} {a:E} {es:Es} {pa:Expr} {pes:List Expr} {ap p:Pos} (hm:(m,f)∈C.meths) (hh:bq pa=true) (hlt:pes.length < 20) (hline:ap.endLine=p.line) (ha:SE C k sc a pa) (hes:SEs C k sc es pes):
  SE C k sc (.mcall f m a es) (.Call (.Attribute pa (m:Str) ap) pes [] p):=fun env A s γ ρ st Q X hs hr I F w=>by
 have star:=cU (env:=env) (pos:=p) hes.1
 have few:((backTo p (starEach pes env)).all (fun x=>!x.1) && (backToKw p (keywordEach [] env)).all (fun x=>x.1.isSome) && decide (pes.length+([]:List Keyword).length+(if ([]:List Keyword).isEmpty then 0 else 1) < 30))=true:=by
  simp only [Bool.and_eq_true,decide_eq_true_eq]
  refine ⟨⟨?_,by rfl⟩,Nat.lt_trans hlt (by decide)⟩
  rw [List.all_eq_true]
  intro x hx
  have:=List.any_eq_false.mp star x hx
  simpa using this
 have hform:methodCallForm (pes.length+([]:List Keyword).length) (backTo p (starEach pes env)) (backToKw p (keywordEach [] env))=true:=few
 have hpos:methodCallPos true pa env ap p=pure p:=by unfold methodCallPos; simp [hline]
 rw [arm_eval_Call,mS hh]
 refine wpAny_bind (ha.at hs hr (At.start I F) w fun mo s₁ o st₁ ρ₁ w₁ r₁ a₁ S₁=>?_)
 obtain ⟨⟨j,fs,ho,hl⟩,w₁⟩:=w₁
 obtain ⟨cl,x,d,es',n,rfl,hd,g1,g2,inst⟩:=nK a₁.inv r₁ ho
 obtain ⟨fa,hfa,hf,ht,hk⟩:=cl.meth _ hm
 have g:=g2.get m
 rw [hl] at g
 refine wpAny_bind (wpAny_standAt ?_)
 unfold methodCall
 rw [hform]
 refine wpAny_bind (wpAny_holding (method_fn (a₁.inv.frag cl.inn) inst cl.get.1 cl.get.2 hf ht (by show (lookIn _ (dictOf es' n)).map _=_; rw [lookIn_dict,g]; rfl) ?_))
 refine wpAny_bind (wpAny_of_eq hpos ?_)
 refine callWith_of (P:=C.K.In) (by rw [star]; rfl) (keeps_K hk) (bR hes hs hr a₁ w₁ fun ms s₂ vs st₂ ρ₂ hn w₂ r₂ a₂ S₂=>⟨a₂.inv.frag cl.inn,?_⟩)
 exact wz (W:=True) (hr.mono (Nat.le_succ _)) hfa a₂ (.cons (r₁.kept S₂.kept) r₂) w₂
theorem vq {es:Es} {pes:List Expr} {p q:Pos} (hne:C.meths≠[]) (hk:ce sc "Store" =true) (hes:SEs C k sc es pes):SE C k sc (.make es) (.Call (.Name (("Store" :String):Str) p) pes [] q):=fun env A s γ ρ st Q X hs hr I F w=>by
 have cl:=C.hcls hne
 refine Call_ (gA I F cl.glo (hs▸hk) (callWith_of (P:=C.K.In) (by rw [cU hes.1]; rfl) (keeps_K cl.keep) (bR hes hs hr (At.start I F) w fun ms s₁ vs st₁ ρ₁ hn w₁ r₁ a₁ S₁=>⟨a₁.inv.frag cl.inn,?_⟩)))
 obtain ⟨fi,hfi,hf,ht⟩:=cl.init
 have KI:=a₁.inv.frag cl.inn
 obtain ⟨hh,g,d,t,os⟩:=s₁
 have nw:hh.get? hh.objs.size=none:=aJ _
 obtain ⟨I2,S2⟩:=a₁.inv.snoc (s':=⟨hh.push emptyDict,g,d,t,os⟩) (o:=.attrs []) (bP.push ⟨hh,g,d,t,os⟩ _ t) nw ⟨_,Heap.get?_push_size _ rfl⟩ ⟨[],0,Heap.get?_push_size _ rfl,.nil⟩
 have sz:(hh.push emptyDict).objs.size=hh.objs.size+1:=Heap.size_push ..
 obtain ⟨I3,S3⟩:=I2.snoc (s':=⟨(hh.push emptyDict).push (instObj C.cls hh.objs.size),g,d,t,os⟩) (o:=.obj st₁.H.length) (a:=hh.objs.size+1) (bP.push ⟨hh.push emptyDict,g,d,t,os⟩ _ t) (by rw [← sz]; exact aJ _)
  ⟨_,by rw [← sz]; exact Heap.get?_push_size _ rfl⟩ ⟨hne,hh.objs.size,by rw [← a₁.inv.len,List.getElem?_append_left (by simp),List.getElem?_append_right (Nat.le_refl _),Nat.sub_self]; rfl,by rw [← sz]; exact Heap.get?_push_size _ rfl⟩
 have a3:At C γ env ρ st s (ρ₁++[hh.objs.size]++[hh.objs.size+1]) ⟨st₁.s,st₁.H++[.attrs []]++[.obj st₁.H.length]⟩ ⟨(hh.push emptyDict).push (instObj C.cls hh.objs.size),g,d,t,os⟩:=
  ⟨I3,a₁.fra.step (st':=⟨st₁.s,st₁.H++[.attrs []]++[.obj st₁.H.length]⟩) (S2.trans S3) rfl,a₁.stp.trans (S2.trans S3),a₁.same⟩
 have rs:aI ((hh.push emptyDict).push (instObj C.cls hh.objs.size)) (ρ₁++[hh.objs.size]++[hh.objs.size+1]) (Nl γ (ρ₁++[hh.objs.size]++[hh.objs.size+1]) (st₁.H++[.attrs []]++[.obj st₁.H.length])) (.loc (st₁.H.length+1)::vs) (.ref (hh.objs.size+1)::ms):=
  .cons (.loc (by rw [List.getElem?_append_right (by rw [List.length_append,a₁.inv.len]; exact Nat.le_refl _),List.length_append,a₁.inv.len]; simp)) (r₁.kept (S2.trans S3).kept)
 have hr':bO (2*k) (A.under (.builtin "type.__call__" ⟨.ref C.cls::ms,[]⟩)) γ:=
  have hu:Code.cUnits (.builtin "type.__call__" ⟨.ref C.cls::ms,[]⟩)≤4:=by show (_:Nat)≤4; exact Nat.le_of_ble_eq_true rfl
  ⟨by have:=hr.depth; show A.depth+1+2*k < 900; exact lin [_,k] [(1,.a (.a (.v 0) (.a (.m 2 (.v 1)) (.n 1))) (.n 1),.n 900)] 1 (.a (.a (.a (.v 0) (.n 1)) (.m 2 (.v 1))) (.n 1)) (.n 900) rfl this,by have:=hr.units; show A.units+Code.cUnits (.builtin "type.__call__" ⟨.ref C.cls::ms,[]⟩)+4*(2*k) < 9000; exact lin [_,_,k] [(1,.v 1,.n 4),(1,.a (.a (.v 0) (.m 4 (.a (.m 2 (.v 2)) (.n 1)))) (.n 1),.n 9000)] 1 (.a (.a (.a (.v 0) (.v 1)) (.m 4 (.m 2 (.v 2)))) (.n 1)) (.n 9000) rfl hu this,hr.hdl,hr.frs⟩
 refine wpAny_call (make_core (makes_of KI cl.makes) (looks_findIn KI hf) (fun self=>bind_fn KI self ht) (.inl rfl) ?_)
 rcases w₁ with ⟨H',hc,hQ⟩ | ⟨c,H',hc,htk,hX⟩
 ·refine codeAny_mono (hc _ _ γ _ _ fi hr' I3 rs hfi) fun res s' p=>?_
  cases res with
  | error e=>exact p.elim
  | ok fl=>
   cases fl<;>first | exact p.elim | skip
   obtain ⟨ρ',p1,p2,p3⟩:=p
   obtain rfl:=p1.none_inv
   refine ⟨rfl,⟨_,⟨st₁.s,H'⟩,ρ',hQ,a₁.same,.loc (p3.kep.pre _ _ ?_),p2,a3.stp.trans p3⟩⟩
   rw [List.getElem?_append_right (by rw [List.length_append,a₁.inv.len]; exact Nat.le_refl _),List.length_append,a₁.inv.len]; simp
 ·refine codeAny_mono (hc _ _ γ _ _ fi hr' I3 rs hfi) fun res s' p=>?_
  cases res with
  | ok fl=>cases fl<;>exact p.elim
  | error e=>
   obtain ⟨ρ',p1,p2,p3⟩:=p
   have hn:ρ₁.length≤st₁.H.length:=by rw [a₁.inv.len]; exact Nat.le_refl _
   have I4:Inv C γ (ρ'.take st₁.H.length) (H'.take st₁.H.length) s':=p2.cut (fun z=>a₁.inv.hq (htk▸z)) fun i o hi ho=>by
    have:st₁.H[i]?= some o:=by rw [← htk,List.getElem?_take,if_pos hi]; exact ho
    exact a₁.inv.lowO this
   have S4:=((S2.trans S3).trans p3).cut hn
   rw [htk] at I4 S4
   exact ⟨c,st₁,_,hX,a₁.same,p1.back (a3.stp.back a3.inv),I4,a₁.stp.trans S4⟩
theorem vv {p:Pos}:SE C k sc .dict (.Dict [] [] p):=fun env A s γ ρ st Q X hs hr I F w=>by
 have ne:s.heap.objs.size≠sysModules:=Nat.ne_of_gt (modules_low (C.nolimit.keeps I.base))
 refine wpAny_Dict_empty ?_
 obtain ⟨I',S'⟩:=I.snoc (s':={ s with heap:=s.heap.push { cls:=.type "dict",data:=.dict #[]}}) (o:=.dictS []) (bP.push s _ s.toks) (aJ _) ⟨_,Heap.get?_push_size _ rfl⟩ ⟨[],Heap.DictOf.new _,.nil,⟨Nat.zero_le _,ne⟩,fun _ h=>nomatch h⟩
 exact ⟨_,_,_,w,rfl,.loc (by rw [← I.len]; simp),I',S'⟩
theorem kI {x:String} {v:V} {vo:V} {mv mo:Value} {j:Nat} {fs:List (String×V)} {Ex:Value→Shared→Prop} {Q:Unit→Shared→Prop} (hx:x∈C.ats) (I:Inv C γ ρ H s) (ro:Rel s.heap ρ (Nl γ ρ H) vo mo) (rv:Rel s.heap ρ (Nl γ ρ H) v mv) (ho:fn H vo j fs) (hl:fs.length < 900)
  (h: ∀ s',Inv C γ ρ (H.set j (.attrs (sA x v fs))) s'→Stp ρ H s ρ (H.set j (.attrs (sA x v fs))) s'→Q () s'):wpAny C.M A (setAttr mo (x:Str) mv) Q Ex s:=by
 obtain ⟨cl,x',d,es,n,rfl,⟨hd,hj⟩,g1,g2,inst⟩:=nK I ro ho
 have KI:=I.frag cl.inn
 refine set_plain KI inst cl.set (osa_open (s:={ s with toks:=s.toks+1 }) KI inst cl.over (r:=none) (by unfold takerIn; rw [cl.attr x hx]; rfl) fun b=>?_)
 obtain ⟨cd,hc,hdd⟩:=any_some cl.hasD
 refine wpAny_bind (wpAny_pure (wpAny_bind (wpAny_bind (wpAny_loadPart inst.at_ (wpAny_bind (Looks.here (s:={ s with toks:=s.toks+1 }) (looks_clsIn KI hc) ?_))))))
 rw [hdd]
 refine wpAny_pure (a:=some d) (wpAny_bind (wpAny_pure (wpAny_bind ?_)))
 unfold nsSet
 refine wpAny_bind (wpAny_bind (wpAny_askSetting (wpAny_pure (wpAny_bind (wpAny_mkText (wpAny_bind (wpAny_loadPart (show s.heap.get? d=_ from g1) ?_)))))))
 dsimp only
 rw [aRefKeyMayBeTheName_at,show (!es.toArray.any (·.key.isStr (x:Str)) && es.toArray.any (·.refKey))=false by rw [← Array.any_toList (p:=DictEntry.refKey),g2.noRef,Bool.and_false]]
 refine wpAny_updatePart g1 ?_
 have e1:=putName_dict (x:Str) (PyData.keyHash C.w.params (x:Str)) (.str (x:Str) (s.toks+1)) mv es n
 have fr:(Obj.putName (x:Str) (PyData.keyHash C.w.params (x:Str)) (.str (x:Str) (s.toks+1)) mv (dictOf es n)).isFreed=false:=by rw [e1]; rfl
 have u1:=Heap.get?_update_self (Obj.putName (x:Str) (PyData.keyHash C.w.params (x:Str)) (.str (x:Str) (s.toks+1)) mv) g1 fr
 rw [e1] at u1
 have ra:=g2.put x rv (PyData.keyHash C.w.params (x:Str)) (s.toks+1)
 refine wpAny_bind (wpAny_lookBehind u1 (pastItsLine_dict (by rw [List.size_toArray,← ra.length]; have:=lY x v fs; exact Nat.le_trans this (show fs.length+1≤16777216+1 by exact lin [_] [(1,.a (.v 0) (.n 1),.n 900)] 1 (.a (.v 0) (.n 1)) (.a (.n 16777216) (.n 1)) rfl hl))) (wpAny_pure ?_))
 obtain ⟨I',S'⟩:=I.upd (s':={ s with heap:=s.heap.update d (Obj.putName (x:Str) (PyData.keyHash C.w.params (x:Str)) (.str (x:Str) (s.toks+1)) mv),toks:=s.toks+1+1 }) (o':=.attrs (sA x v fs)) hd hj rfl rfl (fun b hb=>Heap.get?_update_other _ _ (Ne.symm hb)) ⟨_,u1⟩ rfl rfl fun kp=>
  ⟨_,_,u1,ra.map fun _ _ q=>q.kept kp⟩
 exact h _ I' S'
end
end
noncomputable section
open PySem PyProof.Rows
structure Nm where
 all:List String
 fns:List String
 exs:List String
 meths:List (String×String)
 ats:List String
noncomputable def Cx.nm (C:Cx) (l:List String):Nm:=⟨l,C.fns,C.exs,C.meths,C.ats⟩
noncomputable def nm (l:List String) (y:Str):Option { x:String // (x:Str)=y }:=l.findSome? fun (x:String)=>if h:(x:Str)=y then some ⟨x,h⟩ else none
noncomputable def lc (e:Expr):Option { x:Str×Pos // e=.Name x.1 x.2 }:=match e with
 | .Name x p=>some ⟨(x,p),rfl⟩
 | _=>none
noncomputable def zi (e:Expr):Option { x:Expr×Str×Pos // e=.Attribute x.1 x.2.1 x.2.2 }:=match e with
 | .Attribute a m p=>some ⟨(a,m,p),rfl⟩
 | _=>none
noncomputable def Ec (e:Expr):Option { x:Option Expr×Option Expr×Option Expr×Pos // e=.Slice x.1 x.2.1 x.2.2.1 x.2.2.2 }:=match e with
 | .Slice a b c p=>some ⟨(a,b,c,p),rfl⟩
 | _=>none
noncomputable def one {α:Type} (l:List α):Option { x:α // l=[x]}:=l.head?.bind fun x=>l.rec none fun y r _=>r.rec (some ⟨y,rfl⟩) fun _ _ _=>none
noncomputable def two {α:Type} (l:List α):Option { x:α×α // l=[x.1,x.2]}:=l.rec none fun y r _=>r.rec none fun z r' _=>r'.rec (some ⟨(y,z),rfl⟩) fun _ _ _=>none
noncomputable def Eh (g:String):Option { f:BN // f.name=g }:=
 if h: "len" =g then some ⟨.len,h⟩ else if h: "str" =g then some ⟨.str,h⟩ else if h: "int" =g then some ⟨.int,h⟩ else if h: "range" =g then some ⟨.range,h⟩ else if h: "list" =g then some ⟨.list,h⟩ else if h: "sorted" =g then some ⟨.sorted,h⟩ else if h: "max" =g then some ⟨.max,h⟩ else if h: "min" =g then some ⟨.min,h⟩ else none
noncomputable def DB (g:String):Option { f:MN // f.name=g }:=
 if h: "append" =g then some ⟨.append,h⟩ else if h: "startswith" =g then some ⟨.startswith,h⟩ else if h: "pop" =g then some ⟨.pop,h⟩ else if h: "index" =g then some ⟨.index,h⟩ else if h: "split" =g then some ⟨.split,h⟩ else if h: "join" =g then some ⟨.join,h⟩ else if h: "get" =g then some ⟨.get,h⟩ else if h: "extend" =g then some ⟨.extend,h⟩ else none
noncomputable def mOf (g:String):(l:List (String×String))→Option { f:String // (g,f)∈l }
 | []=>none
 | p::r=>if h:p.1=g then some ⟨p.2,by rw [← h]; exact List.mem_cons_self⟩ else (mOf g r).map fun x=>⟨x.1,List.mem_cons_of_mem _ x.2⟩
noncomputable def lO (f:Expr→E):List Expr→Es
 | []=>.nil
 | e::r=>.cons (f e) (lO f r)
noncomputable def wM (f:Expr→E) (o:Option Expr):E:=o.elim .omit f
noncomputable def uo (c:Const):E:=match c with
 | .none=>.none
 | .bool b=>.bool b
 | .int i=>.int i
 | .str x=>bif decide (x.cps.toList.length≤1000) && x.cps.toList.all (· < 128) then .str x.cps.toList else .stuck
 | _=>.stuck
noncomputable def zu (N:Nm) (sc:Scope) (y:Str):E:=(nm N.all y).elim .stuck fun x=>bif wp sc x.1 && (!((x.1:Str) == ("__debug__" :Str)) && !((x.1:Str) == ("__classdict__" :Str)) && !((x.1:Str) == (".0" :Str))) then .var x.1 else bif ce sc x.1 then .glo x.1 else .stuck
noncomputable def cUn (op:UnaryOp) (a:E):E:=match op with
 | .USub=>.neg a
 | .Not=>.not a
 | _=>.stuck
noncomputable def CM (c:Expr→E) (a:Expr) (ops:List CmpOp) (es:List Expr):E:=
 (one ops).elim ((two ops).elim .stuck fun o=>(two es).elim .stuck fun y=>bif !bE y.1.2 then .cmp2 o.1.1 o.1.2 (c a) (c y.1.1) (c y.1.2) else .stuck) fun o=>(one es).elim .stuck fun y=>bif !bE y.1 then .cmp o.1 (c a) (c y.1) else .stuck
noncomputable def CH (c:Expr→E) (a i:Expr):E:=(Ec i).elim (.idx (c a) (c i)) fun x=>bif x.1.2.2.1.isNone && !(wM c x.1.1).isOmit.xor x.1.1.isNone && !(wM c x.1.2.1).isOmit.xor x.1.2.1.isNone then .slc (c a) (wM c x.1.1) (wM c x.1.2.1) else .stuck
noncomputable def CJ (N:Nm) (sc:Scope) (c:Expr→E) (es:List Expr):E:=(two es).elim .stuck fun y=>(lc y.1.2).elim .stuck fun u=>(nm N.all u.1.1).elim .stuck fun t=>
 bif ce sc "isinstance" && ce sc t.1 && bq y.1.1 then (bif tyNames.contains t.1 then .isi (c y.1.1) t.1 else if t.1= "Store" then (bif !N.meths.isEmpty then .isiS (c y.1.1) else .stuck) else .stuck) else .stuck
noncomputable def CK (N:Nm) (sc:Scope) (c:Expr→E) (y:Str) (es:List Expr):E:=(nm N.all y).elim .stuck fun g=>
 if g.1= "isinstance" then CJ N sc c es else
 if g.1= "Store" then (bif ce sc "Store" && !N.meths.isEmpty && es.all bq then .make (lO c es) else .stuck) else
 bif ce sc g.1 && !es.isEmpty && es.all bq then (bif N.fns.contains g.1 then .call g.1 (lO c es) else (Eh g.1).elim .stuck fun f=>.blt f.1 (lO c es)) else .stuck
noncomputable def CI (N:Nm) (c:Expr→E) (a:Expr) (y:Str) (ap:Pos) (es:List Expr) (p:Pos):E:=(nm N.all y).elim .stuck fun g=> 
 bif bq a && decide (es.length < 20) && (ap.endLine == p.line) && es.all bq then (mOf g.1 N.meths).elim ((DB g.1).elim .stuck fun m=>.mth m.1 (c a) (lO c es)) fun f=>.mcall f.1 g.1 (c a) (lO c es) else .stuck
noncomputable def zx (N:Nm) (c:Expr→E) (a:Expr) (y:Str):E:=(nm N.all y).elim .stuck fun x=>bif bq a && N.ats.contains x.1 then .attr (c a) x.1 else .stuck
noncomputable def zw (N:Nm) (sc:Scope) (c:Expr→E) (f:Expr) (es:List Expr) (kw:List Keyword) (p:Pos):E:=bif kw.isEmpty then (lc f).elim ((zi f).elim .stuck fun x=>CI N c x.1.1 x.1.2.1 x.1.2.2 es p) fun x=>CK N sc c x.1.1 es else .stuck
noncomputable def zv (N:Nm) (sc:Scope) (c c':Expr→E) (elt:Expr) (gs:List Comprehension) (cs:Scope):E:=(one gs).elim .stuck fun g=>(lc g.1.target).elim .stuck fun y=>(nm N.all y.1.1).elim .stuck fun x=>
 bif dp cs sc x.1 && !bE g.1.iter && (g.1.is_async == 0) then (one g.1.ifs).elim (bif g.1.ifs.isEmpty then .comp (c' elt) x.1 (c g.1.iter) else .stuck) fun pc=>.compIf (c' elt) x.1 (c g.1.iter) (c' pc.1) else .stuck
noncomputable def uq (N:Nm) (sc:Scope) (c c':Expr→E) (elt:Expr) (gs:List Comprehension) (cs:Scope):E:=(one gs).elim .stuck fun g=>(lc g.1.target).elim .stuck fun y=>(nm N.all y.1.1).elim .stuck fun x=>
 bif dp cs sc x.1 && !bE g.1.iter && (g.1.is_async == 0) then (one g.1.ifs).elim (bif g.1.ifs.isEmpty then .compX (c' elt) x.1 (c g.1.iter) else .stuck) fun pc=>.compIf (c' elt) x.1 (c g.1.iter) (c' pc.1) else .stuck
noncomputable def cE (N:Nm):Nat→Scope→Expr→E
 | 0=>fun _ _=>.stuck
 | n+1=>fun sc pe=>match pe with
  | .Constant c _ _=>uo c
  | .Name x _=>zu N sc x
  | .Tuple es _ _=>bif decide (es.length≤1000) && es.all bq then .tup (lO (cE N n sc) es) else .stuck
  | .List es _=>bif decide (es.length≤1000) && es.all bq then .list (lO (cE N n sc) es) else .stuck
  | .BinOp a op b _=>.bin op (cE N n sc a) (cE N n sc b)
  | .UnaryOp op a _=>cUn op (cE N n sc a)
  | .BoolOp op es _=>bif !es.isEmpty then (match op with | .And=>.and (lO (cE N n sc) es) | .Or=>.or (lO (cE N n sc) es)) else .stuck
  | .Compare a ops es _=>CM (cE N n sc) a ops es
  | .Subscript a i _=>CH (cE N n sc) a i
  | .Call f es kw p=>zw N sc (cE N n sc) f es kw p
  | .Attribute a y _=>zx N (cE N n sc) a y
  | .Dict ks vs _=>bif ks.isEmpty && vs.isEmpty then .dict else .stuck
  | .ListComp e gs cs _=>uq N sc (cE N n sc) (cE N n (du cs sc)) e gs cs
  | _=>.stuck
section
variable {C:Cx} {k:Nat} {sc:Scope} {pe:Expr}
noncomputable def Snd (C:Cx) (k:Nat) (sc:Scope) (e:E) (pe:Expr):Prop:=SE C k sc e pe∧ST C k sc e pe
theorem aj:Snd C k sc .stuck pe:=⟨sP,fun _ _ _ _ _ _ _ _ _ _ _ _ w=>False.elim w⟩
theorem aX {α:Type} {o:Option α} {g:α→E} {d:E} (h0:Snd C k sc d pe) (h: ∀ x,o=some x→Snd C k sc (g x) pe):Snd C k sc (o.elim d g) pe:=by
 cases o with
 | none=>exact h0
 | some x=>exact h x rfl
theorem bD {b:Bool} {e d:E} (h0:Snd C k sc d pe) (h:b=true→Snd C k sc e pe):Snd C k sc (bif b then e else d) pe:=by
 cases b with
 | false=>exact h0
 | true=>exact h rfl
theorem lU {P:Prop} [Decidable P] {e d:E} (h0:Snd C k sc d pe) (h:P→Snd C k sc e pe):Snd C k sc (if P then e else d) pe:=by
 by_cases q:P
 ·rw [if_pos q]; exact h q
 ·rw [if_neg q]; exact h0
theorem bx {e:E} (he:SE C k sc e pe) (hp: ∀ env (whole:Sem Value),isTrue pe env whole=(do let v ← whole; standAt pe.pos; holding [v] (truthy v))):Snd C k sc e pe:=⟨he,sH he hp⟩
theorem bN {a b:Bool} (h:(a && b)=true):a=true∧b=true:=Bool.and_eq_true_iff.mp h
theorem pq {a:Bool} (h:(!a)=true):a=false:=by cases a<;>first | rfl | cases h
theorem cX {α:Type} {l:List α} (h:(!l.isEmpty)=true):l≠[]:=fun e=>by rw [e] at h; cases h
theorem kF {f:Expr→E} {P:E→Expr→Prop} (h: ∀ pe,P (f pe) pe): ∀ pes:List Expr,lG P (lO f pes) pes
 | []=>.nil
 | pe::r=>.cons (h pe) (kF h r)
theorem ux {f:Expr→E} {P:E→Expr→Prop} (h: ∀ pe,P (f pe) pe): ∀ pes:List Expr,pes.all bq=true→lG (fun e pe=>P e pe∧bq pe=true) (lO f pes) pes
 | [],_=>.nil
 | pe::r,q=>.cons ⟨h pe,(bN q).1⟩ (ux h r (bN q).2)
theorem dt {f:Expr→E} (h: ∀ pe,Snd C k sc (f pe) pe) {pes:List Expr} (q:pes.all bq=true):SEs C k sc (lO f pes) pes:=xS (ux (fun pe=>(h pe).1) pes q)
theorem qt {c:Const} {u:Nat} {p:Pos}:Snd C k sc (uo c) (.Constant c u p):=by
 cases c with
 | none=>exact bx vp fun _ _=>rfl
 | bool b=>exact bx vA fun _ _=>rfl
 | int i=>exact bx yb fun _ _=>rfl
 | str x=>exact bD aj fun h=>bx (xV h) fun _ _=>rfl
 | _=>exact aj
theorem sL {l:List String} {y:Str} {p:Pos}:Snd C k sc (zu (C.nm l) sc y) (.Name y p):=by
 refine aX aj fun x _=>?_
 obtain ⟨x,rfl⟩:=x
 exact bD (bD aj fun h=>bx (yd h) fun _ _=>rfl) fun h=>bx (xT (bN h).1 (bN h).2) fun _ _=>rfl
theorem vj {c:Expr→E} (ih: ∀ pe,Snd C k sc (c pe) pe) {a:Expr} {ops:List CmpOp} {es:List Expr} {p:Pos}:Snd C k sc (CM c a ops es) (.Compare a ops es p):=by
 refine aX (aX aj fun o _=>aX aj fun y _=>bD aj fun h=>?_) fun o _=>aX aj fun y _=>bD aj fun h=>?_
 ·obtain ⟨⟨o1,o2⟩,rfl⟩:=o
  obtain ⟨⟨b,d⟩,rfl⟩:=y
  exact ⟨vy (pq h) (ih a).1 (ih b).1 (ih d).1,uS (pq h) (ih a).1 (ih b).1 (ih d).1⟩
 ·obtain ⟨o,rfl⟩:=o
  obtain ⟨y,rfl⟩:=y
  exact ⟨ye (pq h) (ih a).1 (ih y).1,xI (pq h) (ih a).1 (ih y).1⟩
theorem tW {c:Expr→E} (ih: ∀ pe,Snd C k sc (c pe) pe) {o:Option Expr} (h:(!(wM c o).isOmit.xor o.isNone)=true):BS C k sc (wM c o) o:=by
 cases o with
 | none=>exact .inl ⟨rfl,rfl⟩
 | some pe=>
  refine .inr ⟨?_,pe,rfl,(ih pe).1⟩
  cases q:(wM c (some pe)).isOmit with
  | false=>rfl
  | true=>rw [q] at h; cases h
theorem vd {c:Expr→E} (ih: ∀ pe,Snd C k sc (c pe) pe) {a i:Expr} {p:Pos}:Snd C k sc (CH c a i) (.Subscript a i p):=by
 refine aX (bx (yc (ih a).1 (ih i).1) fun _ _=>rfl) fun x _=>bD aj fun h=>?_
 obtain ⟨⟨lo,hi,st,q⟩,rfl⟩:=x
 obtain ⟨h,h3⟩:=bN h
 obtain ⟨h1,h2⟩:=bN h
 have h1:st=none:=Option.isNone_iff_eq_none.mp h1
 subst h1
 exact bx (xW (ih a).1 (tW ih h2) (tW ih h3)) fun _ _=>rfl
theorem vf {l:List String} {c:Expr→E} (ih: ∀ pe,Snd C k sc (c pe) pe) {es:List Expr} {p q:Pos}:Snd C k sc (CJ (C.nm l) sc c es) (.Call (.Name ("isinstance" :String) p) es [] q):=by
 refine aX aj fun y _=>?_
 obtain ⟨⟨a,t⟩,rfl⟩:=y
 refine aX aj fun u _=>?_
 obtain ⟨⟨u,p'⟩,hu⟩:=u
 have hu:t=.Name u p':=hu
 subst hu
 refine aX aj fun x _=>?_
 obtain ⟨x,hx⟩:=x
 have hx:(x:Str)=u:=hx
 subst hx
 refine bD aj fun h=>?_
 obtain ⟨h,h3⟩:=bN h
 obtain ⟨h1,h2⟩:=bN h
 refine bD (lU aj fun e=>bD aj fun hm=>?_) fun e=>?_
 ·have e:x= "Store" :=e
  subst e; exact bx (vt (cX hm) h1 h2 h3 (ih a).1) fun _ _=>rfl
 ·exact bx (ya h1 (List.contains_iff_mem.mp e) h2 h3 (ih a).1) fun _ _=>rfl
theorem vg {l:List String} {c:Expr→E} (ih: ∀ pe,Snd C k sc (c pe) pe) {y:Str} {es:List Expr} {p q:Pos}:Snd C k sc (CK (C.nm l) sc c y es) (.Call (.Name y p) es [] q):=by
 refine aX aj fun x _=>?_
 obtain ⟨x,rfl⟩:=x
 refine lU (lU (bD aj fun h=>?_) fun e=>bD aj fun h=>?_) fun e=>?_
 ·obtain ⟨h,h3⟩:=bN h
  obtain ⟨h1,h2⟩:=bN h
  refine bD (aX aj fun f _=>?_) fun e=>bx (vz (List.contains_iff_mem.mp e) h1 (cX h2) (dt ih h3)) fun _ _=>rfl
  obtain ⟨f,hf⟩:=f
  have hf:f.name=x:=hf
  subst hf
  exact bx (yf h1 (cX h2) (dt ih h3)) fun _ _=>rfl
 ·have e:x= "Store" :=e
  subst e
  obtain ⟨h,h3⟩:=bN h
  obtain ⟨h1,h2⟩:=bN h
  exact bx (vq (cX h2) h1 (dt ih h3)) fun _ _=>rfl
 ·have e:x= "isinstance" :=e
  subst e; exact vf ih
theorem ve {l:List String} {c:Expr→E} (ih: ∀ pe,Snd C k sc (c pe) pe) {a:Expr} {y:Str} {ap:Pos} {es:List Expr} {p:Pos}:Snd C k sc (CI (C.nm l) c a y ap es p) (.Call (.Attribute a y ap) es [] p):=by
 refine aX aj fun x _=>?_
 obtain ⟨x,rfl⟩:=x
 refine bD aj fun h=>?_
 obtain ⟨h,h5⟩:=bN h
 obtain ⟨h,h4⟩:=bN h
 obtain ⟨h1,h3⟩:=bN h
 refine aX (aX aj fun m _=>?_) fun f _=>bx (sQ f.2 h1 (of_decide_eq_true h3) (beq_iff_eq.mp h4) (ih a).1 (dt ih h5)) fun _ _=>rfl
 obtain ⟨m,hm⟩:=m
 have hm:m.name=x:=hm
 subst hm
 exact bx (xZ h1 (of_decide_eq_true h3) (beq_iff_eq.mp h4) (ih a).1 (dt ih h5)) fun _ _=>rfl
theorem sO {l:List String} {c:Expr→E} (ih: ∀ pe,Snd C k sc (c pe) pe) {a:Expr} {y:Str} {p:Pos}:Snd C k sc (zx (C.nm l) c a y) (.Attribute a y p):=by
 refine aX aj fun x _=>?_
 obtain ⟨x,rfl⟩:=x
 exact bD aj fun h=>bx (vB (bN h).1 (List.contains_iff_mem.mp (bN h).2) (ih a).1) fun _ _=>rfl
theorem sN {l:List String} {c:Expr→E} (ih: ∀ pe,Snd C k sc (c pe) pe) {f:Expr} {es:List Expr} {kw:List Keyword} {p:Pos}:Snd C k sc (zw (C.nm l) sc c f es kw p) (.Call f es kw p):=by
 refine bD aj fun h=>?_
 have h:kw=[]:=List.isEmpty_iff.mp h
 subst h
 refine aX (aX aj fun x _=>?_) fun x _=>?_
 ·obtain ⟨⟨a,m,ap⟩,rfl⟩:=x
  exact ve ih
 ·obtain ⟨⟨y,q⟩,rfl⟩:=x
  exact vg ih
theorem sM {l:List String} {c c':Expr→E} {cs:Scope} (ih: ∀ pe,Snd C k sc (c pe) pe) (ih': ∀ pe,Snd C k (du cs sc) (c' pe) pe) {elt:Expr} {gs:List Comprehension} {p:Pos}:Snd C k sc (uq (C.nm l) sc c c' elt gs cs) (.ListComp elt gs cs p):=by
 refine aX aj fun g _=>?_
 obtain ⟨⟨tg,it,ifs,asy⟩,rfl⟩:=g
 refine aX aj fun y _=>?_
 obtain ⟨⟨y,q⟩,hy⟩:=y
 have hy:tg=.Name y q:=hy
 subst hy
 refine aX aj fun x _=>?_
 obtain ⟨x,hx⟩:=x
 have hx:(x:Str)=y:=hx
 subst hx
 refine bD aj fun h=>?_
 obtain ⟨h,h3⟩:=bN h
 obtain ⟨h1,h2⟩:=bN h
 have h3:asy=0:=beq_iff_eq.mp h3
 subst h3
 refine aX (bD aj fun e=>?_) fun pc _=>?_
 ·have e:ifs=[]:=List.isEmpty_iff.mp e
  subst e
  exact bx (sR h1 (pq h2) (ih' elt).1 (ih it).1) fun _ _=>rfl
 ·obtain ⟨pc,hp⟩:=pc
  have hp:ifs=[pc]:=hp
  subst hp
  exact bx (kE h1 (pq h2) (ih' elt).1 (ih it).1 (ih' pc).2) fun _ _=>rfl
theorem tU {l:List String}: ∀ (n:Nat) (sc:Scope) (pe:Expr),Snd C k sc (cE (C.nm l) n sc pe) pe
 | 0,_,_=>aj
 | n+1,sc,pe=>by
  have ih:=fun sc=>tU (l:=l) n sc
  cases pe with
  | Constant c u p=>exact qt
  | Name x p=>exact sL
  | Tuple es u p=>exact bD aj fun h=>bx (xU (of_decide_eq_true (bN h).1) (dt (ih sc) (bN h).2)) fun _ _=>rfl
  | List es p=>exact bD aj fun h=>bx (vr (of_decide_eq_true (bN h).1) (dt (ih sc) (bN h).2)) fun _ _=>rfl
  | BinOp a op b p=>exact bx (yg (ih sc a).1 (ih sc b).1) fun _ _=>rfl
  | UnaryOp op a p=>
   cases op with
   | USub=>exact bx (xY (ih sc a).1) fun _ _=>rfl
   | Not=>exact ⟨xX (ih sc a).1,xH (ih sc a).2⟩
   | _=>exact aj
  | BoolOp op es p=>
   refine bD aj fun h=>?_
   cases op with
   | And=>exact ⟨yh (kF (fun pe=>(ih sc pe).1) es) (cX h),xJ (kF (fun pe=>(ih sc pe).2) es)⟩
   | Or=>exact ⟨AX (kF (fun pe=>(ih sc pe).1) es) (cX h),AV (kF (fun pe=>(ih sc pe).2) es)⟩
  | Compare a ops es p=>exact vj (ih sc)
  | Subscript a i p=>exact vd (ih sc)
  | Call f es kw p=>exact sN (ih sc)
  | Attribute a y p=>exact sO (ih sc)
  | Dict ks vs p=>
   refine bD aj fun h=>?_
   have h1:ks=[]:=List.isEmpty_iff.mp (bN h).1
   have h2:vs=[]:=List.isEmpty_iff.mp (bN h).2
   subst h1 h2
   exact bx vv fun _ _=>rfl
  | ListComp e gs cs p=>exact sM (ih sc) (ih (du cs sc))
  | _=>exact aj
end
end
noncomputable section
open PySem PyProof.Rows
noncomputable def Own (env:Env) (b:Addr):Prop:=b=env.locals∨∃ n,env.kindOf n=some .cell∧env.cells.lookup n=some b
structure cv (W:Addr→Prop) (ρ:List Addr) (H:List HO) (s:Shared) (ρ':List Addr) (H':List HO) (s':Shared):Prop where
 keep: ∀ a o,s.heap.get? a=some o→¬ Lv ρ H a→¬ W a→∃ o',s'.heap.get? a=some o'∧dR o o'
 live: ∀ a,¬ W a→Lv ρ' H' a→Lv ρ H a∨s.heap.get? a=none
 pre: ∀ (i:Nat) a,ρ[i]?= some a→ρ'[i]?= some a
section
variable {W:Addr→Prop} {ρ ρ' ρ'':List Addr} {H H' H'':List HO} {s s' s'':Shared}
theorem Stp.w (S:Stp ρ H s ρ' H' s'):cv W ρ H s ρ' H' s':=⟨fun a o e n _=>S.kep.keep a o e n,fun a _ q=>S.kep.live a q,S.kep.pre⟩
theorem cv.refl:cv W ρ H s ρ H s:=(Stp.refl ρ H s).w
theorem cv.notLive (x:cv W ρ H s ρ' H' s') {a:Addr} {o:Obj} (e:s.heap.get? a=some o) (n: ¬ Lv ρ H a) (nw: ¬ W a): ¬ Lv ρ' H' a:=fun q=>by
 rcases x.live a nw q with z | z
 ·exact n z
 ·rw [e] at z; cases z
theorem cv.same (x:cv W ρ H s ρ' H' s') {a:Addr} {o:Obj} (e:s.heap.get? a=some o) (n: ¬ Lv ρ H a) (nw: ¬ W a) (hd: ∀ es m,o.data≠.dict es m):s'.heap.get? a=some o:=by
 obtain ⟨o',e',al⟩:=x.keep a o e n nw
 rw [e',al.same hd]
theorem cv.trans (x:cv W ρ H s ρ' H' s') (y:cv W ρ' H' s' ρ'' H'' s''):cv W ρ H s ρ'' H'' s'':=by
 refine ⟨fun a o e n nw=>?_,fun a nw q=>?_,fun i a e=>y.pre _ _ (x.pre _ _ e)⟩
 ·obtain ⟨o',e',q⟩:=x.keep a o e n nw
  obtain ⟨o'',e'',q'⟩:=y.keep a o' e' (x.notLive e n nw) nw
  exact ⟨o'',e'',q.trans q'⟩
 ·rcases y.live a nw q with z | z
  ·exact x.live a nw z
  ·by_cases hL:Lv ρ H a
   ·exact .inl hL
   ·right
    cases hg:s.heap.get? a with
    | none=>rfl
    | some o=>
     obtain ⟨o',e',_⟩:=x.keep a o hg hL nw
     rw [z] at e'; cases e'
theorem cv.touch {a:Addr} (x:cv W ρ H s ρ' H' s') (hw:W a∨s.heap.get? a=none) (k: ∀ b o,b≠a→s'.heap.get? b=some o→s''.heap.get? b=some o):cv W ρ H s ρ' H' s'':=
 ⟨(fun b o e n nw=>by
  obtain ⟨o',e',q⟩:=x.keep b o e n nw
  refine ⟨o',k b o' (fun q=>?_) e',q⟩
  subst q
  rcases hw with z | z
  ·exact nw z
  ·rw [e] at z; cases z),x.live,x.pre⟩
end
section
variable {C:Cx} {k:Nat} {γ γ':Gh} {env:Env} {A:Around} {ρ₁:List Addr} {st₁:St} {s₁:Shared} {ρ ρ':List Addr} {st st':St} {s s':Shared} {E:Value→Shared→Prop}
theorem Fra.own_ghost (F:Fra γ env st ρ s) {b:Addr} (h:Own env b):γ.h b:=by
 rcases h with rfl | ⟨n,hk,hl⟩
 ·exact F.own
 ·obtain ⟨c,ov,h1,h2,_⟩:=F.cell n (.inl hk)
  rw [hl] at h1; cases h1; exact h2.2
theorem Fra.own_nb (F:Fra γ env st ρ s) {b:Addr} (h:Own env b): ¬ γ.b b:=by
 rcases h with rfl | ⟨n,_,hl⟩
 ·exact F.nb
 ·exact (F.nbc n b hl).2
theorem Fra.cell_ne (F:Fra γ env st ρ s) {n:Str} {c:Addr} (hk:env.kindOf n=some .cell∨env.kindOf n=some .free) (hl:env.cells.lookup n=some c):c≠env.locals:=fun e=>by
 obtain ⟨c',ov,h1,h2,⟨o,ho,hd⟩,_⟩:=F.cell n hk
 rw [hl] at h1; cases h1
 obtain ⟨m,⟨o',es,ep,ho',hd',_⟩,_⟩:=F.ns
 rw [e,ho'] at ho; cases ho
 rw [hd'] at hd; cases hd
theorem Fra.cls_false (F:Fra γ env st ρ s):(env.scope.kind == .class || (env.scope.kind == .module && env.locals != env.globals))=false:=by rw [F.kind]; rfl
theorem fy {x:String} {v:V} {mv:Value} (hk:kd env.scope x=some .local∨kd env.scope x=some .cell) (I:Inv C γ ρ st.H s) (F:Fra γ env st ρ s) (r:Rel s.heap ρ (Nl γ ρ st.H) v mv):
  wpAny C.M A (storeName env x mv) (fun _ s'=>Inv C γ ρ st.H s'∧Fra γ env (st.set x v) ρ s'∧cv (Own env) ρ st.H s ρ st.H s') E s:=by
 obtain ⟨m,hm,hv⟩:=F.ns
 rcases hk with hk | hk
 ·refine wpAny_storeName_local hk hm (fun h' hn' hs'=>?_) F.cls_false
  have k1: ∀ b o,b≠env.locals→s.heap.get? b=some o→h'.get? b=some o:=fun b o hb e=>hs'.extBut b o hb e
  have K:=bQ (s:=s) (s':={ s with heap:=h',toks:=s.toks+1 }) (ρ:=ρ) (H:=st.H) F.own k1
  refine ⟨I.touch F.own F.nb (fun _=>fX hn') k1 (cx hn') rfl rfl,⟨F.kind,F.glob,F.blt,F.nl,F.own,⟨_,hn',fun y w ky kz q=>?_⟩,fun n kn=>?_,F.apart,F.nb,F.nbc⟩,cv.refl.touch (.inl (.inl rfl)) k1⟩
  ·by_cases e:y=x
   ·subst e
    simp only [St.set,if_true,Option.some.injEq] at q
    subst q
    exact ⟨mv,by simp,r.kept K⟩
   ·have e':(y:Str)≠(x:Str):=fun z=>e (fv z)
    simp only [St.set,if_neg e] at q
    obtain ⟨mw,e1,e2⟩:=hv y w ky kz q
    exact ⟨mw,by simp [e',e1],e2.kept K⟩
  ·obtain ⟨c,ov,h1,h2,⟨o,ho,hd⟩,h4⟩:=F.cell n kn
   refine ⟨c,ov,h1,h2,⟨o,k1 _ _ (F.cell_ne kn h1) ho,hd⟩,fun y hy w q=>?_⟩
   have e:y≠x:=fun e=>by subst e; rw [← hy] at kn; rcases kn with kn | kn<;>· rw [show env.kindOf (y:Str)=some .local from hk] at kn; cases kn
   simp only [St.set,if_neg e] at q
   obtain ⟨mw,e1,e2⟩:=h4 y hy w q
   exact ⟨mw,e1,e2.kept K⟩
 ·obtain ⟨c,ov,h1,h2,h3,h4⟩:=F.cell x (.inl hk)
  refine wpAny_storeName_cell F.kind hk h1 h3 (fun h' hn' hs'=>?_)
  have k1: ∀ b o,b≠c→s.heap.get? b=some o→h'.get? b=some o:=fun b o hb e=>hs'.extBut b o hb e
  have K:=bQ (s:=s) (s':={ s with heap:=h' }) (ρ:=ρ) (H:=st.H) h2.2 k1
  have hne:=F.cell_ne (.inl hk) h1
  refine ⟨I.touch h2.2 (F.nbc _ _ h1).2 (fun q=>by obtain ⟨o,es,n,e,d⟩:=I.frm c q; obtain ⟨o',e',d'⟩:=h3; rw [e] at e'; cases e'; rw [d] at d'; cases d') k1 (let ⟨o,e,_⟩:=hn'; ⟨o,e⟩) rfl rfl,⟨F.kind,F.glob,F.blt,F.nl,F.own,⟨m,aK hm fun o ho=>⟨o,k1 _ _ (Ne.symm hne) ho,.refl o⟩,fun y w ky kz q=>?_⟩,fun n kn=>?_,F.apart,F.nb,F.nbc⟩,cv.refl.touch (.inl (.inr ⟨_,hk,h1⟩)) k1⟩
  ·have e:y≠x:=fun e=>by subst e; rw [show env.kindOf (y:Str)=some .cell from hk] at ky; cases ky
   simp only [St.set,if_neg e] at q
   obtain ⟨mw,e1,e2⟩:=hv y w ky kz q
   exact ⟨mw,e1,e2.kept K⟩
  ·by_cases e:n=(x:Str)
   ·subst e
    refine ⟨c,_,h1,h2,hn',fun y hy w q=>?_⟩
    have:=fv hy; subst this
    simp only [St.set,if_true,Option.some.injEq] at q
    subst q
    exact ⟨mv,rfl,r.kept K⟩
   ·obtain ⟨c',ov',g1,g2,⟨o,ho,hd⟩,g4⟩:=F.cell n kn
    have hcc:c'≠c:=fun z=>e (F.apart n x c (z▸g1) h1)
    refine ⟨c',ov',g1,g2,⟨o,k1 _ _ hcc ho,hd⟩,fun y hy w q=>?_⟩
    have ey:y≠x:=fun z=>by subst z; exact e hy.symm
    simp only [St.set,if_neg ey] at q
    obtain ⟨mw,e1,e2⟩:=g4 y hy w q
    exact ⟨mw,e1,e2.kept K⟩
end
noncomputable def dc (e:Expr):Bool:=match e with
 | .ListComp ..=>true
 | .SetComp ..=>true
 | .DictComp ..=>true
 | _=>false
noncomputable def jV (sc:Scope) (x:String):Bool:=kd sc x == some .local || kd sc x == some .cell
inductive bU (h:Heap) (ρ:List Addr) (N:Addr→Prop):Flow→PySem.Flow→Prop
 | next:bU h ρ N .next .next
 | brk:bU h ρ N .brk .brk
 | cont:bU h ρ N .cont .cont
 | ret {v:V} {mv:Value}:Rel h ρ N v mv→bU h ρ N (.ret v) (.ret mv)
noncomputable def fm (C:Cx) (γ:Gh) (env:Env) (ρ:List Addr) (st:St) (s:Shared) (Q:Flow→St→Prop) (fl:PySem.Flow) (s':Shared):Prop:=
 ∃ f st' ρ',Q f st'∧bU s'.heap ρ' (Nl γ ρ' st'.H) f fl∧Inv C γ ρ' st'.H s'∧Fra γ env st' ρ' s'∧cv (Own env) ρ st.H s ρ' st'.H s'
noncomputable def cg (C:Cx) (γ:Gh) (env:Env) (ρ:List Addr) (st:St) (s:Shared) (X:String→St→Prop) (ev:Value) (s':Shared):Prop:=
 ∃ c st' ρ',X c st'∧(iY C s.heap s' ev c∨pP C s.heap s' ev c)∧Inv C γ ρ' st'.H s'∧Fra γ env st' ρ' s'∧cv (Own env) ρ st.H s ρ' st'.H s'
noncomputable def Top (A:Around) (env:Env):Prop:=∃ l,A.frames=some (env::l)
noncomputable def SS (C:Cx) (k:Nat) (sc:Scope) (x:S) (ps:Stmt):Prop:=∀ (env:Env) (A:Around) (s:Shared) (γ:Gh) (ρ:List Addr) (st:St) (Q:Flow→St→Prop) (X:String→St→Prop),env.scope=sc→bO (2*k+1) A γ→Top A env→Inv C γ ρ st.H s→Fra γ env st ρ s→
 wS (Calls C k) C.glo x st Q X→wpAny C.M A (exec ps env) (fm C γ env ρ st s Q) (cg C γ env ρ st s X) s
noncomputable def SSs (C:Cx) (k:Nat) (sc:Scope) (x:Ss) (pss:List Stmt):Prop:=∀ (env:Env) (A:Around) (s:Shared) (γ:Gh) (ρ:List Addr) (st:St) (Q:Flow→St→Prop) (X:String→St→Prop),env.scope=sc→bO (2*k+1) A γ→Top A env→Inv C γ ρ st.H s→Fra γ env st ρ s→
 wSs (Calls C k) C.glo x st Q X→wpAny C.M A (execs pss env) (fm C γ env ρ st s Q) (cg C γ env ρ st s X) s
section
variable {C:Cx} {k:Nat} {sc:Scope} {γ γ':Gh} {env:Env} {A:Around} {ρ₁:List Addr} {st₁:St} {s₁:Shared} {ρ ρ':List Addr} {st st':St} {s s':Shared} {Q:Flow→St→Prop} {X:String→St→Prop}
theorem fm.step {fl:PySem.Flow} (S:cv (Own env) ρ st.H s ρ' st'.H s') {s'':Shared} (p:fm C γ env ρ' st' s' Q fl s''):fm C γ env ρ st s Q fl s'':=by
 obtain ⟨f,st'',ρ'',h1,h2,h3,h4,h5⟩:=p
 exact ⟨f,st'',ρ'',h1,h2,h3,h4,S.trans h5⟩
theorem cv.back (S:cv (Own env) ρ st.H s ρ' st'.H s') (I:Inv C γ ρ' st'.H s') (F:Fra γ env st' ρ' s') (a:Addr) (h:s'.heap.get? a=none):s.heap.get? a=none:=by
 cases e:s.heap.get? a with
 | none=>rfl
 | some o=>
  exfalso
  by_cases q:Lv ρ st.H a
  ·obtain ⟨i,_,q1,_⟩:=q
   obtain ⟨o',e'⟩:=I.there a (List.mem_of_getElem? (S.pre i a q1))
   rw [h] at e'; cases e'
  ·by_cases w:Own env a
   ·obtain ⟨o',e'⟩:=I.held a (F.own_ghost w)
    rw [h] at e'; cases e'
   ·obtain ⟨o',e',_⟩:=S.keep a o e q w
    rw [h] at e'; cases e'
theorem cg.step {ev:Value} (I:Inv C γ ρ' st'.H s') (F:Fra γ env st' ρ' s') (S:cv (Own env) ρ st.H s ρ' st'.H s') {s'':Shared} (p:cg C γ env ρ' st' s' X ev s''):cg C γ env ρ st s X ev s'':=by
 obtain ⟨f,st'',ρ'',h1,h2,h3,h4,h5⟩:=p
 exact ⟨f,st'',ρ'',h1,h2.imp (·.back (S.back I F)) (·.back (S.back I F)),h3,h4,S.trans h5⟩
theorem bA.frame {ev:Value} (F:Fra γ env st ρ s) (p:bA C γ ρ st s X ev s'):cg C γ env ρ st s X ev s':=by
 obtain ⟨c,st',ρ',h1,h2,h3,h4,h5⟩:=p
 exact ⟨c,st',ρ',h1,.inl h3,h4,F.step h5 h2,h5.w⟩
theorem SE.stm {e:E} {pe:Expr} {W:V→St→Prop} {K:Value→Shared→Prop} (ih:SE C k sc e pe) (hs:env.scope=sc) (hr:bO (2*k+1) A γ) (I:Inv C γ ρ st.H s) (F:Fra γ env st ρ s) (w:wE (Calls C k) C.glo e st W X)
  (h: ∀ mv s' v st' ρ',W v st'→Rel s'.heap ρ' (Nl γ ρ' st'.H) v mv→Inv C γ ρ' st'.H s'→Fra γ env st' ρ' s'→Stp ρ st.H s ρ' st'.H s'→K mv s'):wpAny C.M A (eval pe env) K (cg C γ env ρ st s X) s:=
 wpAny_mono (ih env A s γ ρ st W X hs hr I F w) (fun mv s' p=>by
  obtain ⟨v,st',ρ',h1,h2,h3,h4,h5⟩:=p
  exact h mv s' v st' ρ' h1 h3 h4 (F.step h5 h2) h5) fun _ _ p=>p.frame F
theorem ST.stm {e:E} {pe:Expr} {W:Bool→St→Prop} {K:Bool→Shared→Prop} (ih:ST C k sc e pe) (hs:env.scope=sc) (hr:bO (2*k+1) A γ) (I:Inv C γ ρ st.H s) (F:Fra γ env st ρ s) (w:wT (Calls C k) C.glo e st W X)
  (h: ∀ b s' st' ρ',W b st'→Inv C γ ρ' st'.H s'→Fra γ env st' ρ' s'→Stp ρ st.H s ρ' st'.H s'→K b s'):wpAny C.M A (isTrue pe env (eval pe env)) K (cg C γ env ρ st s X) s:=
 wpAny_mono (ih env A s γ ρ st W X hs hr I F w) (fun mv s' p=>by
  obtain ⟨st',ρ',h1,h2,h4,h5⟩:=p
  exact h mv s' st' ρ' h1 h4 (F.step h5 h2) h5) fun _ _ p=>p.frame F
theorem SSs.at {x:Ss} {pss:List Stmt} (ih:SSs C k sc x pss) (hs:env.scope=sc) (hr:bO (2*k+1) A γ) (ht:Top A env) (I:Inv C γ ρ' st'.H s') (F:Fra γ env st' ρ' s') (S:cv (Own env) ρ st.H s ρ' st'.H s') (w:wSs (Calls C k) C.glo x st' Q X):
  wpAny C.M A (execs pss env) (fm C γ env ρ st s Q) (cg C γ env ρ st s X) s':=
 wpAny_mono (ih env A s' γ ρ' st' Q X hs hr ht I F w) (fun _ _ p=>p.step S) fun _ _ p=>p.step I F S
theorem SE.stmW {ρ₀:List Addr} {st₀:St} {s₀:Shared} {e:E} {pe:Expr} {W:V→St→Prop} {K:Value→Shared→Prop} (ih:SE C k sc e pe) (hs:env.scope=sc) (hr:bO (2*k+1) A γ) (S₀:cv (Own env) ρ₀ st₀.H s₀ ρ st.H s) (I:Inv C γ ρ st.H s) (F:Fra γ env st ρ s) (w:wE (Calls C k) C.glo e st W X)
  (h: ∀ mv s' v st' ρ',W v st'→Rel s'.heap ρ' (Nl γ ρ' st'.H) v mv→Inv C γ ρ' st'.H s'→Fra γ env st' ρ' s'→Stp ρ st.H s ρ' st'.H s'→K mv s'):wpAny C.M A (eval pe env) K (cg C γ env ρ₀ st₀ s₀ X) s:=
 wpAny_mono (ih.stm hs hr I F w h) (fun _ _ x=>x) fun _ _ p=>p.step I F S₀
theorem cR {pe:Expr} {t:Option Expr} {l:Nat} (h:dc pe=false):swapsWith pe t l env=pure false:=by
 unfold swapsWith
 cases pe<;>first | rfl | cases h
theorem av {ps:Stmt}:SS C k sc .stuck ps:=fun _ _ _ _ _ _ _ _ _ _ _ _ _ w=>False.elim w
theorem AW {e:E} {pe:Expr} {p:Pos} (hc:dc pe=false) (he:SE C k sc e pe):SS C k sc (.ex e) (.Expr pe p):=
 fun env A s γ ρ st Q X hs hr ht I F w=>
  wpAny_Expr_any (he.stm hs hr I F w fun mv s₁ v st₁ ρ₁ w₁ r₁ I₁ F₁ S₁=>⟨_,st₁,ρ₁,w₁,.next,I₁,F₁,S₁.w⟩) (by rw [interactive,F.kind]; rfl) (cR hc)
theorem xM {e:E} {pe:Expr} {p:Pos} (he:SE C k sc e pe):SS C k sc (.ret e) (.Return (some pe) p):=
 fun env A s γ ρ st Q X hs hr ht I F w=>wpAny_Return_some (he.stm hs hr I F w fun mv s₁ v st₁ ρ₁ w₁ r₁ I₁ F₁ S₁=>⟨_,st₁,ρ₁,w₁,.ret r₁,I₁,F₁,S₁.w⟩)
theorem uV {p:Pos}:SS C k sc .cont (.Continue p):=fun env A s γ ρ st Q X hs hr ht I F w=>wpAny_Continue ⟨_,st,ρ,w,.cont,I,F,.refl⟩
theorem uU {p:Pos}:SS C k sc .pass (.Pass p):=fun env A s γ ρ st Q X hs hr ht I F w=>wpAny_Pass ⟨_,st,ρ,w,.next,I,F,.refl⟩
theorem xN {c:E} {t f:Ss} {pc:Expr} {pt pf:List Stmt} {p:Pos} (hc:ST C k sc c pc) (hT:SSs C k sc t pt) (hf:SSs C k sc f pf):SS C k sc (.ite c t f) (.If pc pt pf p):=
 fun env A s γ ρ st Q X hs hr ht I F w=>wpAny_If (hc.stm hs hr I F w fun b s₁ st₁ ρ₁ w₁ I₁ F₁ S₁=>by
  rcases w₁ with ⟨rfl,w₁⟩ | ⟨rfl,w₁⟩
  ·exact hT.at hs hr ht I₁ F₁ S₁.w w₁
  ·exact hf.at hs hr ht I₁ F₁ S₁.w w₁)
theorem uT:SSs C k sc .nil []:=fun env A s γ ρ st Q X hs hr ht I F w=>wpAny_execs_nil ⟨_,st,ρ,w,.next,I,F,.refl⟩
theorem sI {x:S} {ss:Ss} {ps:Stmt} {pss:List Stmt} (hx:SS C k sc x ps) (hss:SSs C k sc ss pss):SSs C k sc (.cons x ss) (ps::pss):=by
 intro env A s γ ρ st Q X hs hr ht I F w
 refine wpAny_execs_cons (wpAny_mono (hx env A s γ ρ st _ X hs hr ht I F w) (fun fl s' p=>?_) fun _ _ p=>p)
 obtain ⟨f,st',ρ',h1,h2,h3,h4,h5⟩:=p
 rcases h1 with ⟨rfl,h1⟩ | ⟨ne,h1⟩
 ·cases h2; exact hss.at hs hr ht h3 h4 h5 h1
 ·cases h2 with
  | next=>exact absurd rfl ne
  | brk=>exact ⟨_,st',ρ',h1,.brk,h3,h4,h5⟩
  | cont=>exact ⟨_,st',ρ',h1,.cont,h3,h4,h5⟩
  | ret r=>exact ⟨_,st',ρ',h1,.ret r,h3,h4,h5⟩
end
end
noncomputable section
open PySem PyProof.Rows
section
variable {C:Cx} {k:Nat} {sc:Scope} {γ γ':Gh} {env:Env} {A:Around} {ρ₁:List Addr} {st₁:St} {s₁:Shared} {ρ ρ':List Addr} {st st':St} {s s':Shared} {Q:Flow→St→Prop} {X:String→St→Prop}
theorem Fra.re (F:Fra γ' env st ρ s) (F₁:Fra γ env st₁ ρ₁ s₁) (K:cG s.heap ρ (Nl γ' ρ st.H) s'.heap ρ' (Nl γ ρ' st'.H)) (e:st'.s=st.s)
  (kL: ∀ b o,γ.h b→s.heap.get? b=some o→∃ o',s'.heap.get? b=some o'∧dR o o') (lv: ∀ b,γ.h b→¬ Lv ρ' st'.H b):Fra γ env st' ρ' s':=by
 obtain ⟨m,hm,hv⟩:=F.ns
 refine ⟨F.kind,F.glob,F.blt,lv _ F₁.own,F₁.own,⟨m,aK hm fun o ho=>kL _ o F₁.own ho,fun x v k kz q=>?_⟩,fun x hk=>?_,F.apart,F₁.nb,F₁.nbc⟩
 ·obtain ⟨mv,e1,e2⟩:=hv x v k kz (e▸q)
  exact ⟨mv,e1,e2.kept K⟩
 ·obtain ⟨c,ov,h1,h2,⟨oc,hoc,hdc⟩,h4⟩:=F.cell x hk
  obtain ⟨c',ov',h1',h2',_⟩:=F₁.cell x hk
  rw [h1] at h1'; cases h1'
  obtain ⟨o',ho',al⟩:=kL c oc h2'.2 hoc
  refine ⟨c,ov,h1,⟨lv _ h2'.2,h2'.2⟩,⟨oc,by rw [ho',al.same fun es n q=>by rw [hdc] at q; cases q],hdc⟩,fun y hy v q=>?_⟩
  obtain ⟨mv,e1,e2⟩:=h4 y hy v (e▸q)
  exact ⟨mv,e1,e2.kept K⟩
theorem Fra.more (F:Fra γ env st ρ s) (I:Inv C γ ρ st.H s) (sub: ∀ b,γ.h b→γ'.h b) (hs: ∀ b,γ'.h b→γ.h b∨s.heap.get? b=none) (hb: ∀ b,γ'.b b→γ.b b):Fra γ' env st ρ s:=
 F.holds I (bP.refl s) sub hs hb
theorem tG {D Cl:Addr} {acc:List V} {Qv:V→St→Prop} (I₁:Inv C γ ρ₁ st₁.H s₁) (F₁:Fra γ env st₁ ρ₁ s₁) (dD:s₁.heap.get? D=none) (dC:s₁.heap.get? Cl=none) (nDC:D≠Cl) (gD: ¬ γ.h D)
  (J:jv C (G2 γ D Cl) env ρ₁ st₁ s₁ D Cl acc ρ st s) (hl:acc.length≤ay) (w:kO acc st Qv):
  ∃ v st' ρ',Qv v st'∧Rel s.heap ρ' (Nl (ef γ Cl) ρ' st'.H) v (.ref D)∧Inv C (ef γ Cl) ρ' st'.H s∧Fra (ef γ Cl) env st' ρ' s∧Stp ρ₁ st₁.H s₁ ρ' st'.H s:=by
 obtain ⟨ms,hpl,hrl⟩:=J.acc
 have sub: ∀ b,(ef γ Cl).h b→(G2 γ D Cl).h b:=fun b q=>q.imp id .inr
 have nD: ¬ (ef γ Cl).h D:=fun q=>q.elim gD nDC
 have F₁':Fra (ef γ Cl) env st₁ ρ₁ s₁:=F₁.more I₁ (fun _=>.inl) (fun b q=>q.imp id fun e=>by rw [e]; exact dC) fun _ q=>q
 have nl: ¬ Nl (ef γ Cl) ρ st.H D:=fun q=>q.elim (J.inv.ghost_nl (.inr (.inl rfl))) nD
 rcases w with w | w
 ·have K:=dB (s:=s) (ρ:=ρ) (H:=st.H) sub
  exact ⟨_,st,ρ,w,.lst hpl nl hl (hrl.kept K),J.inv.drop sub (fun _ q=>q) (fun _ q=>q) (fun _=>Iff.rfl),J.fra.re F₁' K rfl (fun b o _ e=>⟨o,e,.refl o⟩) fun b q=>J.inv.ghost_nl (sub b q),J.stp⟩
 ·have I':Inv C (ef γ Cl) (ρ++[D]) (st.H++[.list acc]) s:=J.inv.adopt (.inr (.inl rfl)) sub (fun _ q=>q) (fun _ q=>q) (fun _=>Iff.rfl) nD (fun q=>gD (γ.bh _ q)) rfl fun kp=>⟨ms,hpl,hrl.kept kp,hl⟩
  have K:cG s.heap ρ (Nl (G2 γ D Cl) ρ st.H) s.heap (ρ++[D]) (Nl (ef γ Cl) (ρ++[D]) (st.H++[.list acc])):=
   ⟨fun _ x e _=>⟨x,e,.refl x⟩,fun b q=>by
    rcases q with q | q
    ·rcases fM J.inv.len q with q | q
     ·exact .inl (.inl q)
     ·exact .inl (.inr (.inr (.inl q)))
    ·exact .inl (.inr (sub b q)),fun i b e=>by rw [List.getElem?_append_left (List.getElem?_eq_some_iff.mp e).1]; exact e⟩
  refine ⟨_,{ st with H:=st.H++[.list acc]},ρ++[D],w,.loc (by rw [← J.inv.len]; simp),I',J.fra.re F₁' K rfl (fun b o _ e=>⟨o,e,.refl o⟩) fun b q=>I'.ghost_nl q,⟨⟨J.stp.kep.keep,fun b q=>?_,fun i b e=>?_⟩⟩⟩
  ·rcases fM J.inv.len q with q | q
   ·exact J.stp.kep.live b q
   ·exact .inr (q▸dD)
  ·have:=J.stp.kep.pre i b e
   rw [List.getElem?_append_left (List.getElem?_eq_some_iff.mp this).1]; exact this
theorem sm {it:E} {pelt pit:Expr} {x y:String} {px py pos spos:Pos} {ifs:List Expr} {cs:Scope} {f:V→St→(List V→St→Prop)→Prop}
  (hi:SE C k env.scope it pit) (hco:dp cs env.scope x=true) (hset:bE pit=false) (T:wQ C A γ cs env x ifs pelt f) (hr:bO (2*k+1) A γ) (I:Inv C γ ρ st.H s) (F:Fra γ env st ρ s)
  (hsw:swapsWith (.ListComp pelt [⟨.Name (x:Str) px,pit,ifs,0⟩] cs pos) (some (.Name (y:Str) py)) spos.line env=pure true) (hy:kd env.scope y=some .local∨kd env.scope y=some .cell)
  (w:wE (Calls C k) C.glo it st (fun vi st=>∃ items,dQ vi items∧fK f items [] st fun out st=>kO out st fun v st=>Q .next (st.set y v)) X):
  wpAny C.M A (exec (.Assign [.Name (y:Str) py] (.ListComp pelt [⟨.Name (x:Str) px,pit,ifs,0⟩] cs pos) spos) env) (fm C γ env ρ st s Q) (cg C γ env ρ st s X) s:=by
 have hnm:=dH hco
 rw [exec_Assign_Name_used _ _ _ _ hsw]
 refine wpAny_bind (wpAny_standAt (wpAny_bind ?_))
 show wpAny _ A (do let _ ← comprehension (.ListComp pelt [⟨.Name (x:Str) px,pit,ifs,0⟩] cs pos) cs env _ (newList []) false (eval pit env) (some (assign (.Name (y:Str) py) env))) _ _ s
 refine wpAny_bind (wpAny_mono (wpAny_comprehension_free (use:=some (assign (.Name (y:Str) py) env)) (Q:=fun _ s'=>fm C γ env ρ st s Q .next s') rfl (fun v=>cZ hset v) (hnm.closure F) hnm.kind (fun p hp h=>hnm.loc p hp h)
  (hi.stm rfl hr I F w fun mi s₁ vi st₁ ρ₁ w₁ r₁ I₁ F₁ S₁=>?_)) (fun _ s' hq=>wpAny_pure (wpAny_pure hq)) fun _ _ e=>e)
 obtain ⟨items,e,w₁⟩:=w₁
 refine ed (RR:=fun acc C'=>compPost C.M A (cg C γ env ρ st s X) (some (assign (.Name (y:Str) py) env)) (fun _ s'=>fm C γ env ρ st s Q .next s') acc C') hnm T hr I₁ F₁ (eT hr I₁ r₁ e) w₁ ?_
 intro D Cl acc ρ' st' s' dD dC nDC gD gC J hl w'
 obtain ⟨v,st2,ρ2,hq,hrel,I2,F2,S2⟩:=tG I₁ F₁ dD dC nDC gD J hl w'
 obtain ⟨m,hm⟩:=J.ns
 show wpAny _ A (assign (.Name (y:Str) py) env (.ref D)) _ _ _
 refine wpAny_assign_Name (wpAny_mono (fy hy I2 F2 hrel) (fun _ s3 p=>?_) fun _ _ e=>e)
 obtain ⟨I3,F3,S3⟩:=p
 have nO: ¬ Own env Cl:=fun q=>gC (F₁.own_ghost q)
 refine ⟨m,aK hm fun o e=>S3.keep _ o e (I2.ghost_nl (.inr rfl)) nO,fun h' hs=>?_⟩
 have k1: ∀ b o,b≠Cl→s3.heap.get? b=some o→h'.get? b=some o:=fun b o hb e=>hs.extBut b o hb e
 refine ⟨.next,st2.set y v,ρ2,hq,.next,I3.lose (.inr rfl) (fun q=>gC (γ.bh _ q)) (fun _=>Iff.rfl) (fun _=>.inl) (fun _ q=>q) (fun _ q=>q) gC k1 rfl rfl,F3.lose F₁ (.inr rfl) (fun _=>.inl) gC k1,?_⟩
 have S13:cv (Own env) ρ₁ st₁.H s₁ ρ2 (st2.set y v).H s3:=(Stp.w S2).trans S3
 exact (Stp.w S₁).trans (S13.touch (.inr dC) k1)
theorem lC {x:String} {e:E} {pe:Expr} {py spos:Pos} (hk:jV env.scope x=true) (hc:swapsWith pe (some (.Name (x:Str) py)) spos.line env=pure false) (he:SE C k env.scope e pe) (hr:bO (2*k+1) A γ) (I:Inv C γ ρ st.H s) (F:Fra γ env st ρ s) (w:wS (Calls C k) C.glo (.asg x e) st Q X):
  wpAny C.M A (exec (.Assign [.Name (x:Str) py] pe spos) env) (fm C γ env ρ st s Q) (cg C γ env ρ st s X) s:=by
 have hk:kd env.scope x=some .local∨kd env.scope x=some .cell:=(Bool.or_eq_true_iff.mp hk).imp beq_iff_eq.mp beq_iff_eq.mp
 exact wpAny_Assign_Name (he.stm rfl hr I F w fun mv s₁ v st₁ ρ₁ w₁ r₁ I₁ F₁ S₁=>wpAny_mono (fy hk I₁ F₁ r₁) (fun _ s₂ p=>⟨.next,_,ρ₁,w₁,.next,p.1,p.2.1,S₁.w.trans p.2.2⟩) fun _ _ x=>x) hc
theorem xP {x:String} {e:E} {pe:Expr} {py spos:Pos} (hk:jV sc x=true) (hc:dc pe=false) (he:SE C k sc e pe):SS C k sc (.asg x e) (.Assign [.Name (x:Str) py] pe spos):=by
 rintro env A s γ ρ st Q X rfl hr ht I F w
 exact lC hk (cR hc) he hr I F w
theorem oN {pelt:Expr} {y:String} {gs:List Comprehension} {py pos:Pos} {cs:Scope} {l:Nat}: ∃ b,swapsWith (.ListComp pelt gs cs pos) (some (.Name (y:Str) py)) l env=pure b:=⟨_,rfl⟩
theorem oC {y x:String} {e it:E} {pelt pit:Expr} {px py pos spos:Pos} {ifs:List Expr} {cs:Scope} {f:V→St→(List V→St→Prop)→Prop} (hy:jV env.scope y=true) (hco:dp cs env.scope x=true) (hset:bE pit=false) (hi:SE C k env.scope it pit) (T:wQ C A γ cs env x ifs pelt f) (he:SE C k env.scope e (.ListComp pelt [⟨.Name (x:Str) px,pit,ifs,0⟩] cs pos)) (hr:bO (2*k+1) A γ) (I:Inv C γ ρ st.H s) (F:Fra γ env st ρ s)
  (w:wE (Calls C k) C.glo it st (fun vi st=>∃ items,dQ vi items∧fK f items [] st fun out st=>kO out st fun v st=>Q .next (st.set y v)) X) (w':wS (Calls C k) C.glo (.asg y e) st Q X):
  wpAny C.M A (exec (.Assign [.Name (y:Str) py] (.ListComp pelt [⟨.Name (x:Str) px,pit,ifs,0⟩] cs pos) spos) env) (fm C γ env ρ st s Q) (cg C γ env ρ st s X) s:=by
 obtain ⟨b,hb⟩:=oN (env:=env) (pelt:=pelt) (y:=y) (gs:=[⟨.Name (x:Str) px,pit,ifs,0⟩]) (py:=py) (pos:=pos) (cs:=cs) (l:=spos.line)
 cases b with
 | false=>exact lC hy hb he hr I F w'
 | true=>exact sm hi hco hset T hr I F hb ((Bool.or_eq_true_iff.mp hy).imp beq_iff_eq.mp beq_iff_eq.mp) w
theorem lQ {y x:String} {elt it:E} {pelt pit:Expr} {px py pos spos:Pos} {cs:Scope} (hy:jV sc y=true) (hco:dp cs sc x=true) (hset:bE pit=false) (he:SE C k (du cs sc) elt pelt) (hi:SE C k sc it pit):
  SS C k sc (.asg y (.comp elt x it)) (.Assign [.Name (y:Str) py] (.ListComp pelt [⟨.Name (x:Str) px,pit,[],0⟩] cs pos) spos):=by
 rintro env A s γ ρ st Q X rfl hr ht I F w
 exact oC hy hco hset hi (gS he hr) (vx hco hset he hi) hr I F w w
theorem jH {y x:String} {elt it c:E} {pelt pit pc:Expr} {px py pos spos:Pos} {cs:Scope} (hy:jV sc y=true) (hco:dp cs sc x=true) (hset:bE pit=false) (he:SE C k (du cs sc) elt pelt) (hi:SE C k sc it pit) (hc:ST C k (du cs sc) c pc):
  SS C k sc (.asg y (.compIf elt x it c)) (.Assign [.Name (y:Str) py] (.ListComp pelt [⟨.Name (x:Str) px,pit,[pc],0⟩] cs pos) spos):=by
 rintro env A s γ ρ st Q X rfl hr ht I F w
 exact oC hy hco hset hi (gR he hc hr) (kE hco hset he hi hc) hr I F w w
end
end
noncomputable section
open PySem PyProof.Rows
theorem kP (its:Array Value) (n:Nat) (j:Nat) (v:Value): ∃ n',Obj.mapSeq (·.setIfInBounds j v) { cls:=.type "list",data:=.seq its n }={ cls:=.type "list",data:=.seq (its.setIfInBounds j v) n' }:=by
 simp only [Obj.mapSeq]
 exact ⟨_,rfl⟩
section
variable {prog:Program} {w:World} {A:Around} {E:Value→Shared→Prop} {s:Shared}
theorem jI {l:Addr} {items:Array Value} {k:Int} {t:Tok} {v:Value} {Q:Unit→Shared→Prop} (hl:s.heap.PlainList l items)
  (h0:0≤k) (hfit:k < 2 ^ 63) (hn:k < items.size)
  (hQ: ∀ h',h'.PlainList l (items.setIfInBounds k.toNat v)→Heap.SameBut l s.heap h'→Q () { s with heap:=h' }):
  wpAny (model prog w) A (setItem (.ref l) (.int k t) v) Q E s:=by
 have hl':=hl.isList
 obtain ⟨n,ho⟩:=hl
 unfold setItem
 try with_reducible refine wpAny_holding ?_
 first | refine wpAny_bind (wpAny_pure ?_) | skip
 refine wpAny_bind (wpAny_sequenceKey hl'.typeIs (by decide) ?_)
 refine wpAny_bind (wpAny_callSpecial?_slot (name:=Str.ofString "__setitem__") hl'.typeIs slot_list_setitem
  (wpAny_call_entry slot_list_setitem hl'.typeIs entry_list_setitem ?_ (args_list_setitem _ _ _)))
 show wpAny _ _ (Builtin.List.listSubscript? (.int k t) >>= _) _ _ s
 refine wpAny_bind (wpAny_listSubscript_int (fitsIndex_of h0 hfit) ?_)
 clear hfit
 obtain ⟨j,rfl⟩:=Int.eq_ofNat_of_zero_le h0
 have hj:j < items.size:=by lia
 have hx':items[j]?= some items[j]:=Array.getElem?_eq_getElem hj
 show wpAny _ _ ((seqItemAt l j >>= fun r=>pure (r.map (j,·))) >>= _) _ _ s
 refine wpAny_bind (wpAny_bind (wpAny_seqItemAt ho rfl (wpAny_pure ?_)))
 rw [hx']
 show wpAny _ _ (setSeqItemAt l j v >>= _) _ _ s
 obtain ⟨n',hn'⟩:=kP items n j v
 have hfin:(s.heap.update l (Obj.mapSeq (·.setIfInBounds j v))).PlainList l (items.setIfInBounds j v):=
  ⟨n',by rw [Heap.get?_update_self _ ho (by rw [hn']; rfl),hn']⟩
 refine wpAny_bind (wpAny_setSeqItemAt ho rfl ?_)
 first
  | exact wpAny_bind (wpAny_pure (wpAny_pure ⟨.none,rfl,wpAny_pure (hQ _ hfin (Heap.SameBut.update ..))⟩))
  | exact wpAny_pure ⟨.none,rfl,wpAny_pure (hQ _ hfin (Heap.SameBut.update ..))⟩
end
theorem aI.set {h:Heap} {ρ:List Addr} {N:Addr→Prop}: ∀ {vs:List V} {ms:List Value},aI h ρ N vs ms→∀ (j:Nat) {v:V} {m:Value},Rel h ρ N v m→aI h ρ N (vs.set j v) (ms.set j m)
 | _,_,.nil,_,_,_,_=>.nil
 | _,_,.cons _ q,0,_,_,r=>.cons r q
 | _,_,.cons a q,j+1,_,_,r=>.cons a (aI.set q j r)
section
variable {C:Cx} {k:Nat} {sc:Scope} {γ γ':Gh} {env:Env} {A:Around} {ρ₁:List Addr} {st₁:St} {s₁:Shared} {ρ ρ':List Addr} {st st':St} {s s':Shared} {Q:Flow→St→Prop} {X:String→St→Prop} {i:Nat} {a:Addr} {vs:List V}
theorem bU.kept {h h':Heap} {ρ ρ':List Addr} {N N':Addr→Prop} (K:cG h ρ N h' ρ' N') {f:Flow} {fl:PySem.Flow} (r:bU h ρ N f fl):bU h' ρ' N' f fl:=by
 cases r with
 | next=>exact .next
 | brk=>exact .brk
 | cont=>exact .cont
 | ret r=>exact .ret (r.kept K)
theorem cg.none {ev:Value} {s'':Shared} {P:Prop} (p:cg C γ env ρ st s noX ev s''):P:=by
 obtain ⟨_,_,_,h,_⟩:=p; exact h.elim
theorem ql {o i e:E} {po pi pe:Expr} {py p:Pos} (hc:dc pe=false) (ho:SE C k sc o po) (hi:SE C k sc i pi) (he:SE C k sc e pe):SS C k sc (.asgSub o i e) (.Assign [.Subscript po pi py] pe p):=by
 intro env A s γ ρ st Q X hs hr ht I F w
 refine wpAny_Assign_Subscript (he.stm hs hr I F w fun mv s₁ v st₁ ρ₁ w₁ r₁ I₁ F₁ S₁=>ho.stmW hs hr S₁.w I₁ F₁ w₁ fun mo s₂ vo st₂ ρ₂ w₂ r₂ I₂ F₂ S₂=>
  hi.stmW hs hr (S₁.trans S₂).w I₂ F₂ w₂ fun mi s₃ vi st₃ ρ₃ w₃ r₃ I₃ F₃ S₃=>?_) (cR hc)
 have rv:=(r₁.kept S₂.kept).kept S₃.kept
 have ro:=r₂.kept S₃.kept
 have S03:=(S₁.trans S₂).trans S₃
 rcases w₃ with ⟨j,kk,xs,⟨rfl,rfl⟩,hxs,h0,hlt,hQ⟩ | ⟨j,kk,kvs,⟨rfl,rfl⟩,hxs,hlt,hQ⟩ | z
 ·obtain ⟨x,rfl,ha⟩:=ro.loc_inv
  obtain ⟨t,rfl⟩:=r₃.int_inv
  obtain ⟨ms,hpl,hrl,hlen⟩:=I₃.obj j _ _ ha hxs
  have hn:kk < ((ms.toArray.size:Nat):Int):=by rw [List.size_toArray,← hrl.length]; exact (Int.toNat_lt h0).mp hlt
  have hsz:ms.toArray.size≤2 ^ 62:=by rw [List.size_toArray,← hrl.length]; exact Nat.le_trans hlen (by unfold ay; decide)
  refine jI hpl h0 (by clear hlt hxs; lia) hn fun h' hp' sb=>?_
  obtain ⟨I',S'⟩:=I₃.upd (s':={ s₃ with heap:=h' }) (o':=.list (xs.set kk.toNat v)) ha hxs rfl rfl sb.2 (cc hp') rfl rfl fun kp=>
   ⟨ms.set kk.toNat mv,by simpa using hp',(hrl.kept kp).set _ (rv.kept kp),by rw [List.length_set]; exact hlen⟩
  exact ⟨.next,_,ρ₃,hQ,.next,I',F₃.step S' rfl,(S03.trans S').w⟩
 ·obtain ⟨x,rfl,ha⟩:=ro.loc_inv
  obtain ⟨t,rfl,hk1,hk2⟩:=r₃.str_inv
  obtain ⟨ms,hd,hrl,⟨hlen,hm⟩,hks⟩:=I₃.obj j _ _ ha hxs
  refine wpAny_setItem_pairs (strKind_is _ _ (sOf kk) t) hd (fun h' hd' sb=>?_) (by rw [← hrl.length]; exact hlen)
  obtain ⟨I',S'⟩:=I₃.upd (s':={ s₃ with heap:=h',toks:=s₃.toks+1 }) (o':=.dictS (nF kk v kvs)) ha hxs rfl rfl sb.2 (let ⟨o,_,_,ho,_⟩:=hd'; ⟨o,ho⟩) rfl rfl fun kp=>
   ⟨_,hd',(hrl.map fun _ _ q=>q.kept kp).store jK kk (rv.kept kp),⟨Nat.le_trans (lX kk v kvs) (show kvs.length+1≤16777216 by exact lin [_] [(1,.a (.v 0) (.n 1),.n 1000000)] 1 (.a (.v 0) (.n 1)) (.n 16777216) rfl hlt),hm⟩,fun p hp=>(qF hp).elim (fun q=>q▸⟨hk1,hk2⟩) fun ⟨q,q1,q2⟩=>q2▸hks q q1⟩
  exact ⟨.next,_,ρ₃,hQ,.next,I',F₃.step S' rfl,(S03.trans S').w⟩
 ·exact z.elim
theorem oP {o e:E} {x:String} {po pe:Expr} {py p:Pos} (hx:x∈C.ats) (hc:dc pe=false) (ho:SE C k sc o po) (he:SE C k sc e pe):SS C k sc (.asgAttr o x e) (.Assign [.Attribute po (x:Str) py] pe p):=by
 intro env A s γ ρ st Q X hs hr ht I F w
 refine plainObj_wpAny_Assign_Attribute (he.stm hs hr I F w fun mv s₁ v st₁ ρ₁ w₁ r₁ I₁ F₁ S₁=>ho.stmW hs hr S₁.w I₁ F₁ w₁ fun mo s₂ vo st₂ ρ₂ w₂ r₂ I₂ F₂ S₂=>?_) (cR hc)
 obtain ⟨j,fs,hob,hl,hQ⟩:=w₂
 exact kI hx I₂ r₂ (r₁.kept S₂.kept) hob hl fun s' I' S'=>⟨.next,_,ρ₂,hQ,.next,I',F₂.step S' rfl,((S₁.trans S₂).trans S').w⟩
theorem ru {x:String} {b:Ss} {pb:List Stmt} {py:Pos} {items:List V} {R:Result→Shared→Prop} (hb:SSs C k sc b pb) (hs:env.scope=sc) (hk:kd env.scope x=some .local∨kd env.scope x=some .cell) (hr:bO (2*k+1) A γ) (ht:Top A env) (I₁:Inv C γ ρ₁ st₁.H s₁) (F₁:Fra γ env st₁ ρ₁ s₁)
  {itv:Value} {s₂:Shared} (h:gM C A (Off γ ρ₁ st₁.H) (Nl γ ρ₁ st₁.H) ρ₁ s₁ items itv s₂) (w₁:tC (fun v st Q=>wSs (Calls C k) C.glo b (st.set x v) Q noX) items st₁ Q)
  (hR: ∀ f s',fm C γ env ρ₁ st₁ s₁ Q f s'→R (.ok f) s'):codeAny C.M A (.forLoop (.Name (x:Str) py) itv pb [] env) R s₂:=by
 obtain ⟨J,fp,P,St',rfl,dJ,g,hst,itr⟩:=h
 have W:=itr.walks
 have gJ: ¬ γ.h J:=I₁.ghost_new dJ
 have nO: ¬ Own env J:=fun q=>gJ (F₁.own_ghost q)
 have stk: ∀ {i:Nat} {ρ ρ':List Addr} {st st':St} {s s':Shared},Inv C (ef γ J) ρ st.H s→cv (Own env) ρ₁ st₁.H s₁ ρ st.H s→cv (Own env) ρ st.H s ρ' st'.H s'→St' i s.heap→St' i s'.heap:=fun {i ρ ρ' st st' s s'} I S S' q=>by
  refine W.frame _ _ _ q fun y hy o e=>?_
  rcases itr.fp y hy with rfl | ⟨hn,o₁,h1,h2⟩
  ·obtain ⟨o',e',hd⟩:=itr.has _ _ q
   rw [e] at e'; cases e'
   exact S'.same e (I.ghost_nl (.inr rfl)) nO hd
  ·have hl: ¬ Lv ρ₁ st₁.H y:=fun z=>hn (.inl z)
   have no: ¬ Own env y:=fun z=>hn (.inr ⟨F₁.own_ghost z,F₁.own_nb z⟩)
   have e1:=S.same h1 hl no h2
   rw [e] at e1; cases e1
   exact S'.same e (S.notLive h1 hl no) no h2
 have keptf: ∀ {ρ:List Addr} {st:St} {s:Shared},cv (Own env) ρ₁ st₁.H s₁ ρ st.H s→Inv C (ef γ J) ρ st.H s→cG s₁.heap ρ₁ (Nl γ ρ₁ st₁.H) s.heap ρ (Nl (ef γ J) ρ st.H):=fun S I=>
  ⟨fun a o e n=>S.keep a o e (fun q=>n (.inl q)) fun q=>n (.inr (F₁.own_ghost q)),fun a q=>by
   rcases q with q | q | q
   ·by_cases ho:Own env a
    ·exact .inl (.inr (F₁.own_ghost ho))
    ·exact (S.live a ho q).imp .inl id
   ·exact .inl (.inr q)
   ·exact .inr (q▸dJ),S.pre⟩
 have eJ: ∃ o,s₂.heap.get? J=some o:=let ⟨o,e,_⟩:=itr.has _ _ hst; ⟨o,e⟩
 have I2:Inv C (ef γ J) ρ₁ st₁.H s₂:=I₁.hold g dJ eJ
 have F2:Fra (ef γ J) env st₁ ρ₁ s₂:=F₁.hold I₁ g dJ
 refine codeAny_forLoop (fun n s'=>∃ i ρ' st',n=items.length+1 - i∧i≤items.length∧Inv C (ef γ J) ρ' st'.H s'∧Fra (ef γ J) env st' ρ' s'∧cv (Own env) ρ₁ st₁.H s₁ ρ' st'.H s'∧St' i s'.heap∧
  tC (fun v st Q=>wSs (Calls C k) C.glo b (st.set x v) Q noX) (items.drop i) st' Q) ?_ (items.length+1) ⟨0,ρ₁,st₁,rfl,Nat.zero_le _,I2,F2,g.stp.w,hst,w₁⟩ (by intro _; rfl)
 rintro n s' ⟨i,ρ',st',rfl,hi,I',F',S',hst',w'⟩
 by_cases hlt:i < items.length
 ·have hdrop:items.drop i=items[i]::items.drop (i+1):=List.drop_eq_getElem_cons hlt
  rw [hdrop] at w'
  have hv:items[i]?= some items[i]:=List.getElem?_eq_getElem hlt
  generalize items[i]=v at w' hv
  have w':wSs (Calls C k) C.glo b (st'.set x v) (wv Q fun st'=>tC (fun v st Q=>wSs (Calls C k) C.glo b (st.set x v) Q noX) (items.drop (i+1)) st' Q) noX:=w'
  refine W.item i _ _ _ hlt hst' fun mv h₁ tk₁ hPv hst₁ hk₁=>?_
  have k1: ∀ b o,b≠J→s'.heap.get? b=some o→h₁.get? b=some o:=fun b o hb e=>hk₁ b o (by simpa using hb) e
  have I1:Inv C (ef γ J) ρ' st'.H ({ s' with heap:=h₁,toks:=tk₁ }:Shared):=I'.touch (a:=J) (.inr rfl) (fun q=>gJ (γ.bh _ q)) (fun q=>(gJ (γ.fh _ q)).elim) k1 (let ⟨o,e,_⟩:=itr.has _ _ hst₁; ⟨o,e⟩) rfl rfl
  have F1:Fra (ef γ J) env st' ρ' ({ s' with heap:=h₁,toks:=tk₁ }:Shared):=F'.touch F₁ (.inr rfl) gJ k1
  have S1:cv (Own env) ρ₁ st₁.H s₁ ρ' st'.H ({ s' with heap:=h₁,toks:=tk₁ }:Shared):=S'.touch (.inr dJ) k1
  have rv:Rel h₁ ρ' (Nl (ef γ J) ρ' st'.H) v mv:=(itr.rel i v mv hv hPv).kept (keptf S1 I1)
  refine wpAny_assign_Name (wpAny_mono (fy hk I1 F1 rv) (fun _ s3 p=>?_) fun _ _ e=>e)
  obtain ⟨I3,F3,S3⟩:=p
  have hst3:St' (i+1) s3.heap:=stk I1 S1 S3 hst₁
  have S13:cv (Own env) ρ₁ st₁.H s₁ ρ' (st'.set x v).H s3:=S1.trans S3
  refine wpAny_mono (hb env A s3 (ef γ J) ρ' (st'.set x v) _ _ hs (hr.more (fun _ q=>q) fun _ q=>q) ht I3 F3 w') (fun fl s4 p=>?_) fun _ _ p=>p.none
  obtain ⟨f,st4,ρ4,h1,h2,h3,h4,h5⟩:=p
  have hst4:St' (i+1) s4.heap:=stk I3 S13 h5 hst3
  have S14:=S13.trans h5
  have fin: ∀ {ff:Flow} {ffl:PySem.Flow},Q ff st4→bU s4.heap ρ4 (Nl (ef γ J) ρ4 st4.H) ff ffl→fm C γ env ρ₁ st₁ s₁ Q ffl s4:=fun q1 q2=>
   have Kl:=dB (γ:=γ) (γ':=ef γ J) (s:=s4) (ρ:=ρ4) (H:=st4.H) fun _=>.inl
   ⟨_,st4,ρ4,q1,q2.kept Kl,h3.drop (fun _=>.inl) (fun _ q=>q) (fun _ q=>q) (fun _=>Iff.rfl),h4.re F₁ Kl rfl (fun b o _ e=>⟨o,e,.refl o⟩) fun b q=>h3.ghost_nl (.inl q),S14⟩
  have go:tC (fun v st Q=>wSs (Calls C k) C.glo b (st.set x v) Q noX) (items.drop (i+1)) st4 Q→∃ m,m < items.length+1 - i∧∃ i ρ' st',m=items.length+1 - i∧i≤items.length∧Inv C (ef γ J) ρ' st'.H s4∧Fra (ef γ J) env st' ρ' s4∧cv (Own env) ρ₁ st₁.H s₁ ρ' st'.H s4∧St' i s4.heap∧tC (fun v st Q=>wSs (Calls C k) C.glo b (st.set x v) Q noX) (items.drop i) st' Q:=fun h=>
   ⟨_,Nat.sub_lt_sub_left (Nat.lt_succ_of_lt hlt) (Nat.lt_succ_self i),i+1,ρ4,st4,rfl,hlt,h3,h4,S14,hst4,h⟩
  rcases h1 with ⟨rfl,h1⟩ | ⟨rfl,h1⟩ | ⟨rfl,h1⟩ | ⟨v,rfl,h1⟩
  ·cases h2; exact go h1
  ·cases h2; exact go h1
  ·cases h2; exact hR _ _ (fin h1 .next)
  ·cases h2 with
   | ret r=>exact hR _ _ (fin h1 (.ret r))
 ·have hin:i=items.length:=Nat.le_antisymm hi (Nat.le_of_not_lt hlt)
  subst hin
  rw [List.drop_length] at w'
  refine W.done _ _ _ hst' fun h₁ tk₁ hk₁=>?_
  have k1: ∀ b o,b≠J→s'.heap.get? b=some o→h₁.get? b=some o:=fun b o hb e=>hk₁ b o (by simpa using hb) e
  refine wpAny_execs_nil (hR _ _ ⟨.next,st',ρ',w',.next,I'.lose (a:=J) (.inr rfl) (fun q=>gJ (γ.bh _ q)) (fun _=>Iff.rfl) (fun _=>.inl) (fun _ q=>q) (fun _ q=>q) gJ k1 rfl rfl,F'.lose F₁ (.inr rfl) (fun _=>.inl) gJ k1,S'.touch (.inr dJ) k1⟩)
theorem xO {x:String} {it:E} {b:Ss} {pit:Expr} {pb:List Stmt} {py p:Pos} (hk:jV sc x=true) (hset:bE pit=false) (hi:SE C k sc it pit) (hb:SSs C k sc b pb):SS C k sc (.for_ x it b) (.For (.Name (x:Str) py) pit pb [] p):=by
 rintro env A s γ ρ st Q X rfl hr ht I F w
 have hk:kd env.scope x=some .local∨kd env.scope x=some .cell:=(Bool.or_eq_true_iff.mp hk).imp beq_iff_eq.mp beq_iff_eq.mp
 refine wpAny_For (hi.stm rfl hr I F w fun mi s₁ vi st₁ ρ₁ w₁ r₁ I₁ F₁ S₁=>?_) (fun v=>cZ hset v)
 rcases w₁ with ⟨items,e,w₁⟩ | w₁
 ·exact wpAny_mono (eT hr I₁ r₁ e) (fun itv s₂ h=>ru hb rfl hk hr ht I₁ F₁ h w₁ fun f s' p=>p.step S₁.w) fun _ _ x=>x
 ·exact w₁.elim
theorem xK {c:E} {b:Ss} {pc:Expr} {pb:List Stmt} {p:Pos} (hc:ST C k sc c pc) (hb:SSs C k sc b pb):SS C k sc (.whl c b) (.While pc pb [] p):=by
 rintro env A s γ ρ st Q X hs hr ht I F ⟨n,w⟩
 refine wpAny_While (codeAny_whileLoop (fun m s'=>∃ ρ' st',Inv C γ ρ' st'.H s'∧Fra γ env st' ρ' s'∧cv (Own env) ρ st.H s ρ' st'.H s'∧
  nc (fun st Q=>wT (Calls C k) C.glo c st Q noX) (fun st Q=>wSs (Calls C k) C.glo b st Q noX) m st' Q) ?_ n ⟨ρ,st,I,F,.refl,w⟩)
 rintro m s' ⟨ρ',st',I',F',S',w'⟩
 cases m with
 | zero=>exact False.elim w'
 | succ m=>
  refine wpAny_mono (hc env A s' γ ρ' st' _ _ hs hr I' F' w') (fun bb s₁ p=>?_) fun _ _ p=>(p.frame F').none
  obtain ⟨st₁,ρ₁,w₁,e₁,I₁,S₁⟩:=p
  have F₁:Fra γ env st₁ ρ₁ s₁:=F'.step S₁ e₁
  have S01:=S'.trans (Stp.w S₁)
  rcases w₁ with ⟨rfl,w₁⟩ | ⟨rfl,w₁⟩
  ·refine wpAny_mono (hb env A s₁ γ ρ₁ st₁ _ _ hs hr ht I₁ F₁ w₁) (fun fl s₂ p=>?_) fun _ _ p=>p.none
   obtain ⟨f,st₂,ρ₂,h1,h2,h3,h4,h5⟩:=p
   have S02:=S01.trans h5
   rcases h1 with ⟨rfl,h1⟩ | ⟨rfl,h1⟩ | ⟨rfl,h1⟩ | ⟨v,rfl,h1⟩
   ·cases h2; exact ⟨m,Nat.lt_succ_self m,ρ₂,st₂,h3,h4,S02,h1⟩
   ·cases h2; exact ⟨m,Nat.lt_succ_self m,ρ₂,st₂,h3,h4,S02,h1⟩
   ·cases h2; exact ⟨.next,st₂,ρ₂,h1,.next,h3,h4,S02⟩
   ·cases h2 with
    | ret r=>exact ⟨_,st₂,ρ₂,h1,.ret r,h3,h4,S02⟩
  ·exact wpAny_execs_nil ⟨.next,st₁,ρ₁,w₁,.next,I₁,F₁,S01⟩
end
end
noncomputable section
open PySem PyProof.Rows PySem.W
noncomputable def ju (γ:Gh) (e T:Addr) (h h':Heap):Prop:=(∀ a o,h.get? a=some o→a≠e→a≠T→∃ o',h'.get? a=some o'∧dR o o'∧(¬ γ.f a→o'=o))∧∀ a o,h.get? a=some o→∃ o',h'.get? a=some o'
noncomputable def Exo (h:Heap) (a:Addr):Prop:=∀ o,h.get? a=some o→(∃ vs,o.data=.fields vs)∧o.cls≠.type "range"
theorem iK.exo {h:Heap} {e T cls:Addr} {fl:Value} (x:iK h e T cls fl):Exo h e∧Exo h T:=by
 obtain ⟨oe,vs,oT,ts,he,⟨hc,hdi,hd⟩,⟨h1,h2⟩,hTe,hT,hcT,hdT,h3⟩:=x
 refine ⟨fun o q=>?_,fun o q=>?_⟩
 ·rw [he] at q; cases q; exact ⟨⟨_,hd⟩,by rw [hc]; exact fun z=>Value.noConfusion z⟩
 ·rw [hT] at q; cases q; exact ⟨⟨_,hdT⟩,by rw [hcT]; decide⟩
theorem rB {h:Heap} {e cls t:Addr} (he:h.get? e=some { cls:=.ref cls,data:=.fields #[.ref t,.none,.none,.none,.bool false,.none]}):Exo h e:=fun o q=>by
 rw [he] at q; cases q; exact ⟨⟨_,rfl⟩,fun z=>Value.noConfusion z⟩
noncomputable def lF (γ:Gh) (h:Heap):Prop:=∀ a,γ.f a→∃ o es n,h.get? a=some o∧o.data=.dict es n
noncomputable def sq (γ:Gh) (l:List Env):Prop:=∀ env∈l,env.scope.kind≠.module∧∃ L,env.frame=some L∧γ.f L
section
variable {γ:Gh} {M:Model} {A:Around} {E:Value→Shared→Prop} {s:Shared}
theorem ju.trans {e T T':Addr} {h h' h'':Heap} (x:ju γ e T h h') (y:ju γ e T' h' h'') (hT:T'=T∨h.get? T'=none):ju γ e T h h'':=⟨fun a o ho ne nT=>by
 obtain ⟨o',h1,h2,h3⟩:=x.1 a o ho ne nT
 obtain ⟨o'',q1,q2,q3⟩:=y.1 a o' h1 ne fun z=>by
  rcases hT with q | q
  ·exact nT (z.trans q)
  ·rw [z,q] at ho; cases ho
 exact ⟨o'',q1,h2.trans q2,fun z=>(q3 z).trans (h3 z)⟩,fun a o q=>let ⟨o',q'⟩:=x.2 a o q; y.2 a o' q'⟩
theorem dR.dict {o o':Obj} (x:dR o o') {es:Array DictEntry} {n:Nat} (h:o.data=.dict es n):o'.data=.dict es n:=by
 rcases x with rfl | ⟨_,_,_,_,rfl⟩
 ·exact h
 ·exact h
theorem lF.slip {e T:Addr} {h h':Heap} (d:lF γ h) (x:ju γ e T h h') (he: ¬ γ.f e) (hT: ¬ γ.f T):lF γ h':=fun a q=>by
 obtain ⟨o,es,n,h1,h2⟩:=d a q
 obtain ⟨o',q1,q2,_⟩:=x.1 a o h1 (fun z=>he (z▸q)) fun z=>hT (z▸q)
 exact ⟨o',es,n,q1,q2.dict h2⟩
theorem ld {h:Heap} (d:lF γ h) {as:List Addr}: ∀ {l:List Env},sq γ l→(∀ env∈l,∀ L,env.frame=some L→L∈as)→h.FunFrames (hideAll h as) l
 | [],_,_=>trivial
 | env::l,hs,ha=>by
  obtain ⟨hk,L,hf,hL⟩:=hs env List.mem_cons_self
  obtain ⟨o,es,n,ho,hd⟩:=d L hL
  exact ⟨hk,⟨L,o,hf,hideAll_none as (ha env List.mem_cons_self L hf),ho,fun vs q=>by rw [hd] at q; cases q⟩,ld d (fun e he=>hs e (List.mem_cons_of_mem _ he)) fun e he=>ha e (List.mem_cons_of_mem _ he)⟩
theorem jh {env:Env} {l:List Env} {L e cls:Addr} {oe:Obj} {vs:Array Value} {head:Value} {hadNext:Bool} {Q:Unit→Shared→Prop} (hfr:A.frames=some (env::l)) (hf:env.frame=some L) (hs:sq γ (env::l)) (d:lF γ s.heap)
  (he:s.heap.get? e=some oe) (hc:oe.cls=.ref cls∧oe.dict=none) (hd:oe.data=.fields vs) (hsz:1 < vs.size) (h2:vs[2]?= some .none)
  (h: ∀ h' T,s.heap.get? T=none→ju γ e T s.heap h'→iK h' e T cls (rawInt L)→Q () { s with heap:=h' }):
  wpAny M A (do let a ← frameOf env; let pl ← entryPlaceOf L hadNext; let b ← EntryCells.newEntry head a .none (rawInt L) .none pl; setField (.ref e) 1 b) Q E s:=by
 have hin: ∀ b,b∈(env::l).filterMap (·.frame)→γ.f b:=fun b hm=>by
  obtain ⟨en,hen,q⟩:=List.mem_filterMap.mp hm
  obtain ⟨_,L',q1,q2⟩:=hs en hen
  rw [q] at q1; cases q1; exact q2
 have hene:e ∉ (env::l).filterMap (·.frame):=fun hm=>by
  obtain ⟨o,es,n,q1,q2⟩:=d e (hin e hm)
  rw [he] at q1; cases q1; rw [hd] at q2; cases q2
 refine wpAny_bind (wpAny_frameOf_fun hfr (ld d hs fun en hen L hL=>List.mem_filterMap.mpr ⟨en,hen,hL⟩) hf fun h₁ hs₁=>?_)
 refine wpAny_bind (wpAny_entryPlaceOf fun pl hpl=>?_)
 unfold EntryCells.newEntry newFields
 refine wpAny_bind (wpAny_newObj_type ?_ (hpl.sizeOk5 _ _ _ _ _))
 have he₁:h₁.get? e=some oe:=(hs₁.2.1 e hene).trans he
 have he₂:=Heap.get?_push_of_some (h:=h₁) { cls:=.type "traceback",dict:=none,data:=.fields ([head,.ref L,.none,rawInt L,.none]++(if pl.isEmpty then List.replicate 6 Value.none else pl)).toArray } he₁
 refine wpAny_setField he₂ hd hsz ?_
 have hTe:h₁.objs.size≠e:=Nat.ne_of_gt (Heap.lt_size he₁)
 have hd₃:=Obj.data_mapFields hd (·.setIfInBounds 1 (Value.ref h₁.objs.size))
 have he₃:=Heap.get?_update_self (Obj.mapFields (·.setIfInBounds 1 (Value.ref h₁.objs.size))) he₂ (Obj.isFreed_of_fields hd₃)
 have hT₃:=(Heap.get?_update_other (h₁.push { cls:=.type "traceback",dict:=none,data:=.fields ([head,.ref L,.none,rawInt L,.none]++(if pl.isEmpty then List.replicate 6 Value.none else pl)).toArray })
  (Obj.mapFields (·.setIfInBounds 1 (Value.ref h₁.objs.size))) (Ne.symm hTe)).trans (Heap.get?_push_size h₁ rfl)
 refine h _ h₁.objs.size ?_ ⟨fun a o ho ne nT=>?_,fun a o ho=>?_⟩ ⟨_,_,_,_,he₃,⟨(Obj.cls_mapFields _ _).trans hc.1,?_,hd₃⟩,⟨by simp [hsz],by rw [Array.getElem?_setIfInBounds_ne (by decide)]; exact h2⟩,hTe,hT₃,rfl,rfl,by first | (simp; done) | (rcases hpl with rfl | ⟨_,_,_,_,_,_,_,rfl⟩<;>simp)⟩
 ·cases q:s.heap.get? h₁.objs.size with
  | none=>rfl
  | some o=>
   obtain ⟨sl,z⟩:=hs₁.2.2 _ o q
   rw [aJ] at z; cases z
 ·rw [Heap.get?_update_other _ _ (Ne.symm ne)]
  by_cases hm:a∈(env::l).filterMap (·.frame)
  ·obtain ⟨sl,z⟩:=hs₁.2.2 a o ho
   obtain ⟨o',es,n,q1,q2⟩:=d a (hin a hm)
   rw [ho] at q1; cases q1
   exact ⟨_,Heap.get?_push_of_some _ z,.inr ⟨es,n,sl,q2,rfl⟩,fun z=>absurd (hin a hm) z⟩
  ·exact ⟨o,Heap.get?_push_of_some _ ((hs₁.2.1 a hm).trans ho),.refl o,fun _=>rfl⟩
 ·by_cases ne:a=e
  ·subst ne; exact ⟨_,he₃⟩
  ·rw [Heap.get?_update_other _ _ (Ne.symm ne)]
   obtain ⟨sl,z⟩:=hs₁.2.2 a o ho
   exact ⟨_,Heap.get?_push_of_some _ z⟩
 ·show (Obj.mapFields _ oe).dict=none
  rw [← hc.2]; obtain ⟨c,di,da,sl⟩:=oe; simp only at hd; subst hd; rfl
theorem tm {env:Env} {l:List Env} {L e T cls:Addr} {Q:Unit→Shared→Prop} (hfr:A.frames=some (env::l)) (hf:env.frame=some L) (hs:sq γ (env::l)) (d:lF γ s.heap) (x:iK s.heap e T cls .none)
  (h: ∀ h' T',s.heap.get? T'=none→ju γ e T s.heap h'→iK h' e T' cls (rawInt L)→Q () { s with heap:=h' }):wpAny M A (noteFrame (.ref e) env) Q E s:=by
 obtain ⟨oe,vs,oT,ts,he,⟨hc,hdi,hd⟩,⟨h1,h2⟩,hTe,hT,hcT,hdT,h3⟩:=x
 unfold noteFrame
 simp only [hf]
 refine wpAny_bind (wpAny_field he hd h1 ?_)
 rw [if_pos (show (Value.ref T != Value.none)=true from by simp)]
 refine wpAny_bind (wpAny_field hT hdT h3 ?_)
 rw [if_neg (show ¬ ((Value.none == rawInt L)=true) from by simp [rawInt])]
 refine wpAny_bind (wpAny_setField hT hdT (Array.getElem?_eq_some_iff.mp h3).1 ?_)
 have other: ∀ b,b≠T→(s.heap.update T (Obj.mapFields (·.setIfInBounds 3 Value.none))).get? b=s.heap.get? b:=fun b hb=>Heap.get?_update_other _ _ (Ne.symm hb)
 have sl:ju γ e T s.heap (s.heap.update T (Obj.mapFields (·.setIfInBounds 3 Value.none))):=⟨fun a o ho _ nT=>⟨o,(other a nT).trans ho,.refl o,fun _=>rfl⟩,fun a o ho=>by
  by_cases q:a=T
  ·subst q; exact ⟨_,Heap.get?_update_self _ hT (Obj.isFreed_of_fields (Obj.data_mapFields hdT _))⟩
  ·exact ⟨o,(other a q).trans ho⟩⟩
 have hfe: ¬ γ.f e:=fun q=>by obtain ⟨o,es,n,q1,q2⟩:=d e q; rw [he] at q1; cases q1; rw [hd] at q2; cases q2
 have hfT: ¬ γ.f T:=fun q=>by obtain ⟨o,es,n,q1,q2⟩:=d T q; rw [hT] at q1; cases q1; rw [hdT] at q2; cases q2
 refine jh (s:={ s with heap:=s.heap.update T (Obj.mapFields (·.setIfInBounds 3 Value.none))}) hfr hf hs (d.slip sl hfe hfT) ((other e (Ne.symm hTe)).trans he) ⟨hc,hdi⟩ hd (Array.getElem?_eq_some_iff.mp h1).1 h2 fun h' T' hn sl' x'=>?_
 have hT':s.heap.get? T'=none:=by
  by_cases q:T'=T
  ·subst q
   have:=Heap.get?_update_self (Obj.mapFields (·.setIfInBounds 3 Value.none)) hT (Obj.isFreed_of_fields (Obj.data_mapFields hdT _))
   rw [show (s.heap.update T' (Obj.mapFields (·.setIfInBounds 3 Value.none))).get? T'=none from hn] at this; cases this
  ·rw [← other T' q]; exact hn
 exact h h' T' hT' (sl.trans sl' (.inr hT')) x'
theorem tj {env:Env} {l:List Env} {L e cls t:Addr} {Q:Unit→Shared→Prop} (hfr:A.frames=some (env::l)) (hf:env.frame=some L) (hs:sq γ (env::l)) (d:lF γ s.heap) (he:s.heap.get? e=some { cls:=.ref cls,data:=.fields #[.ref t,.none,.none,.none,.bool false,.none]})
  (h: ∀ h' T',s.heap.get? T'=none→ju γ e e s.heap h'→iK h' e T' cls (rawInt L)→Q () { s with heap:=h' }):wpAny M A (noteFrame (.ref e) env) Q E s:=by
 unfold noteFrame
 simp only [hf]
 refine wpAny_bind (wpAny_field he rfl (x:=.none) rfl ?_)
 rw [if_neg (by decide)]
 exact jh hfr hf hs d he ⟨rfl,rfl⟩ rfl (by simp) rfl fun h' T hn sl x=>h h' T hn ⟨fun a o ho ne _=>sl.1 a o ho ne (fun z=>by rw [z,hn] at ho; cases ho),sl.2⟩ x
theorem fH {e T cls:Addr} {fl:Value} {Q:Unit→Shared→Prop} (x:iK s.heap e T cls fl) (h: ∀ h',ju γ e T s.heap h'→iK h' e T cls .none→Q () { s with heap:=h' }):wpAny M A (setFlight (.ref e) none) Q E s:=by
 obtain ⟨oe,vs,oT,ts,he,⟨hc,hdi,hd⟩,⟨h1,h2⟩,hTe,hT,hcT,hdT,h3⟩:=x
 have other: ∀ b,b≠T→(s.heap.update T (Obj.mapFields (·.setIfInBounds 3 ((none:Option Addr).elim Value.none fun f=>rawInt f)))).get? b=s.heap.get? b:=fun b hb=>Heap.get?_update_other _ _ (Ne.symm hb)
 unfold setFlight
 refine wpAny_bind (wpAny_field he hd h1 ?_)
 rw [if_pos (show (Value.ref T != Value.none)=true from by simp)]
 refine wpAny_setField hT hdT (Array.getElem?_eq_some_iff.mp h3).1 (h _ ⟨fun a o ho _ nT=>⟨o,(other a nT).trans ho,.refl o,fun _=>rfl⟩,fun a o ho=>by
  by_cases q:a=T
  ·subst q; exact ⟨_,Heap.get?_update_self _ hT (Obj.isFreed_of_fields (Obj.data_mapFields hdT _))⟩
  ·exact ⟨o,(other a q).trans ho⟩⟩ ?_)
 exact ⟨oe,vs,_,_,(other e (Ne.symm hTe)).trans he,⟨hc,hdi,hd⟩,⟨h1,h2⟩,hTe,Heap.get?_update_self _ hT (Obj.isFreed_of_fields (Obj.data_mapFields hdT _)),(Obj.cls_mapFields _ _).trans hcT,Obj.data_mapFields hdT _,by simp [(Array.getElem?_eq_some_iff.mp h3).1]⟩
theorem yW {C:Cx} {env:Env} {l:List Env} {L:Addr} {b:Heap} {ev:Value} {c:String} {Q:Unit→Shared→Prop} (hfr:A.frames=some (env::l)) (hf:env.frame=some L) (hl:sq γ (env::l)) (d:lF γ s.heap)
  (hb: ∀ a o,b.get? a=some o→∃ o',s.heap.get? a=some o') (x:iY C b s ev c∨pP C b s ev c)
  (h: ∀ h' e T,ev=.ref e→b.get? e=none→b.get? T=none→(Exo s.heap e∧Exo s.heap T)→ju γ e T s.heap h'→iY C b { s with heap:=h' } ev c→Q () { s with heap:=h' }):wpAny M A (noteFrame ev env) (fun _ s₁=>wpAny M A (setFlight ev none) Q E s₁) E s:=by
 have up: ∀ a,s.heap.get? a=none→b.get? a=none:=fun a q=>by
  cases e:b.get? a with
  | none=>rfl
  | some o=>obtain ⟨o',z⟩:=hb a o e; rw [q] at z; cases z
 rcases x with ⟨e,cls,T,rfl,hc,he,hT,x⟩ | ⟨e,cls,t,rfl,hc,he,ho⟩
 ·refine tm hfr hf hl d x fun h' T' hn sl x'=>fH (γ:=γ) (s:={ s with heap:=h' }) x' fun h'' sl' x''=>?_
  exact h h'' e T rfl he hT x.exo (sl.trans sl' (.inr hn)) ⟨e,cls,T',rfl,hc,he,up _ hn,x''⟩
 ·refine tj hfr hf hl d ho fun h' T' hn sl x'=>fH (γ:=γ) (s:={ s with heap:=h' }) x' fun h'' sl' x''=>?_
  exact h h'' e e rfl he he ⟨rB ho,rB ho⟩ (sl.trans sl' (.inr hn)) ⟨e,cls,T',rfl,hc,he,up _ hn,x''⟩
end
section
variable {γ:Gh} {C:Cx} {e T:Addr} {h h':Heap} {ρ ρ':List Addr} {N:Addr→Prop} {H H':List HO} {s s₁:Shared} {W:Addr→Prop} {env:Env} {st:St} {k:Nat} {A:Around} {sc:Scope}
theorem ju.at (sl:ju γ e T h h') (x:Exo h e∧Exo h T) {a:Addr} {o:Obj} (ha:h.get? a=some o) (no:(∀ vs,o.data≠.fields vs)∨o.cls=.type "range"): ∃ o',h'.get? a=some o'∧dR o o'∧(¬ γ.f a→o'=o):=by
 have key: ∀ b,Exo h b→a≠b:=fun b q z=>by
  subst z
  obtain ⟨⟨vs,q1⟩,q2⟩:=q o ha
  rcases no with n | n
  ·exact n vs q1
  ·exact q2 n
 exact sl.1 a o ha (key e x.1) (key T x.2)
theorem ju.same (sl:ju γ e T h h') (x:Exo h e∧Exo h T) {a:Addr} {o:Obj} (ha:h.get? a=some o) (no:(∀ vs,o.data≠.fields vs)∨o.cls=.type "range") (nd: ∀ es n,o.data≠.dict es n):h'.get? a=some o:=by
 obtain ⟨o',q1,q2,_⟩:=sl.at x ha no
 rw [q1,q2.same nd]
theorem Rel.slip2 (sl:ju γ e T h h') (x:Exo h e∧Exo h T):(∀ {v:V} {m:Value},Rel h ρ N v m→Rel h' ρ N v m)∧∀ {vs:List V} {ms:List Value},aI h ρ N vs ms→aI h' ρ N vs ms:=
 Rel.both .none .bool .int .str (fun ⟨o,ho,hc,n,hd⟩ hn hl r=>.tup ⟨o,sl.same x ho (.inl fun vs q=>by rw [hd] at q; cases q) (fun es n' q=>by rw [hd] at q; cases q),hc,n,hd⟩ hn hl r)
  (fun ⟨n,ho⟩ hn hl r=>.lst ⟨n,sl.same x ho (.inl fun vs q=>by cases q) (fun es n' q=>by cases q)⟩ hn hl r) (fun hr hn=>.rng (sl.same x hr (.inr rfl) (fun es n' q=>by cases q)) hn) (fun q=>.loc q) .nil .cons
theorem Rel.slip (sl:ju γ e T h h') (x:Exo h e∧Exo h T) {v:V} {m:Value} (r:Rel h ρ N v m):Rel h' ρ N v m:=(Rel.slip2 sl x).1 r
theorem Inv.slip (I:Inv C γ ρ H s) (nz:ak H) (he:C.base.get? e=none) (hT:C.base.get? T=none) (x:Exo s.heap e∧Exo s.heap T) (sl:ju γ e T s.heap h'):Inv C γ ρ H { s with heap:=h' }:=by
 refine ⟨fun a o q=>?_,I.len,I.nodup,I.fresh,fun a q=>let ⟨o,z⟩:=I.there a q; sl.2 a o z,fun i a o h1 h2=>?_,I.apart,I.bor,fun a q=>let ⟨o,z⟩:=I.held a q; sl.2 a o z,I.off,fun a q=>?_,fun a q=>(I.hq nz a q).elim,I.hq,I.gens,I.os⟩
 ·obtain ⟨o',z1,z2,z3⟩:=sl.1 a o (I.base a o q) (fun z=>by rw [z,he] at q; cases q) fun z=>by rw [z,hT] at q; cases q
  rw [z1,z3 fun z=>by rw [I.off a (γ.fh a z)] at q; cases q]
 ·have ob:=I.obj i a o h1 h2
  have nf:o≠.dead→¬ γ.f a:=fun nd z=>nd (I.bor i a o h1 (I.apart a (List.mem_of_getElem? h1) (γ.fh a z)) h2)
  cases o with
  | list vs=>
   obtain ⟨ms,⟨n,q1⟩,q2,q3⟩:=ob
   exact ⟨ms,⟨n,sl.same x q1 (.inl fun vs q=>by cases q) fun es n q=>by cases q⟩,(Rel.slip2 sl x).2 q2,q3⟩
  | inst c=>exact absurd (List.mem_of_getElem? h2) (nz c)
  | obj j=>
   obtain ⟨q0,d,q1,q2⟩:=ob
   exact ⟨q0,d,q1,sl.same x q2 (.inl fun vs q=>by cases q) fun es n q=>by cases q⟩
  | attrs fs=>
   obtain ⟨es,n,q1,q2⟩:=ob
   obtain ⟨o',z1,_,z3⟩:=sl.at x q1 (.inl fun vs q=>by cases q)
   exact ⟨es,n,by rw [z1,z3 (nf HO.noConfusion)],q2.map fun _ _ r=>r.slip sl x⟩
  | dictS kvs=>
   obtain ⟨ms,q1,q2,q3⟩:=ob
   refine ⟨ms,ip q1 fun o ho=>?_,q2.map fun _ _ r=>r.slip sl x,q3⟩
   obtain ⟨o₀,es,ep,g1,_,g2,_⟩:=q1
   rw [g1] at ho; cases ho
   obtain ⟨o',z1,_,z3⟩:=sl.at x g1 (.inl fun vs q=>by rw [g2] at q; cases q)
   rw [z1,z3 (nf HO.noConfusion)]
  | dead=>trivial
 ·obtain ⟨o,es,n,z,d⟩:=I.frm a q
  obtain ⟨o',z1,z2,_⟩:=sl.at x z (.inl fun vs q=>by rw [d] at q; cases q)
  exact ⟨o',es,n,z1,z2.dict d⟩
theorem Fra.slip (F:Fra γ env st ρ s) (x:Exo s.heap e∧Exo s.heap T) (sl:ju γ e T s.heap h'):Fra γ env st ρ { s with heap:=h' }:=by
 obtain ⟨m,hm,hv⟩:=F.ns
 refine ⟨F.kind,F.glob,F.blt,F.nl,F.own,⟨m,aK hm fun o ho=>?_,fun y v k kz q=>?_⟩,fun n k=>?_,F.apart,F.nb,F.nbc⟩
 ·obtain ⟨o₀,es,ep,g1,g2,_⟩:=hm
  rw [g1] at ho; cases ho
  obtain ⟨o',z1,z2,_⟩:=sl.at x g1 (.inl fun vs q=>by rw [g2] at q; cases q)
  exact ⟨o',z1,z2⟩
 ·obtain ⟨mv,e1,e2⟩:=hv y v k kz q
  exact ⟨mv,e1,e2.slip sl x⟩
 ·obtain ⟨c,ov,h1,h2,⟨oc,hoc,hdc⟩,h4⟩:=F.cell n k
  refine ⟨c,ov,h1,h2,⟨oc,sl.same x hoc (.inl fun vs q=>by rw [hdc] at q; cases q) (fun es n q=>by rw [hdc] at q; cases q),hdc⟩,fun y hy v q=>?_⟩
  obtain ⟨mv,e1,e2⟩:=h4 y hy v q
  exact ⟨mv,e1,e2.slip sl x⟩
theorem cv.slip (S:cv W ρ H s ρ' H' s₁) (he:s.heap.get? e=none) (hT:s.heap.get? T=none) (sl:ju γ e T s₁.heap h'):cv W ρ H s ρ' H' { s₁ with heap:=h' }:=
 ⟨fun a o q n nw=>by
  obtain ⟨o',e1,al⟩:=S.keep a o q n nw
  obtain ⟨o'',e2,al2,_⟩:=sl.1 a o' e1 (fun z=>by rw [z,he] at q; cases q) fun z=>by rw [z,hT] at q; cases q
  exact ⟨o'',e2,al.trans al2⟩,S.live,S.pre⟩
theorem fN {a b:Addr} {o:HO} (hl:ρ.length=H.length) (ho:o.isLive=false) (q:Lv (ρ++[a]) (H++[o]) b):Lv ρ H b:=by
 obtain ⟨i,x,h1,h2,h3⟩:=q
 by_cases hi:i < H.length
 ·rw [List.getElem?_append_left (hl▸hi)] at h1
  rw [List.getElem?_append_left hi] at h2
  exact ⟨i,x,h1,h2,h3⟩
 ·rw [List.getElem?_append_right (Nat.le_of_not_lt hi)] at h2
  have:x=o:=by
   cases hk:i - H.length with
   | zero=>rw [hk] at h2; exact (Option.some.inj h2).symm
   | succ n=>rw [hk] at h2; cases h2
  rw [this,ho] at h3; cases h3
theorem cv.snoc {a:Addr} {o:HO} (S:cv W ρ H s ρ' H' s₁) (hl:ρ'.length=H'.length) (ho:o.isLive=false):cv W ρ H s (ρ'++[a]) (H'++[o]) s₁:=
 ⟨S.keep,fun b nw q=>S.live b nw (fN hl ho q),fun i b q=>by have:=S.pre i b q; rw [List.getElem?_append_left (List.getElem?_eq_some_iff.mp this).1]; exact this⟩
theorem cv.cut {n:Nat} (S:cv W ρ H s ρ' H' s₁) (hn:ρ.length≤n):cv W ρ H s (ρ'.take n) (H'.take n) s₁:=
 ⟨S.keep,fun b nw q=>S.live b nw (dm q),fun i a q=>by
  rw [List.getElem?_take,if_pos (by have:=(List.getElem?_eq_some_iff.mp q).1; exact li [i,n,_] [([3],[2]),([1,0],[3])] [1,0] [2] rfl hn this)]; exact S.pre i a q⟩
noncomputable def Ge (γ:Gh) (e:Addr):Gh:=⟨γ.h,γ.f,γ.fh,fun a=>a=e,γ.b,γ.bh⟩
theorem Inv.handle {c:String} {cls:Addr} {fl:Value} (I:Inv C γ ρ H s) (ne:e ∉ ρ) (nh: ¬ γ.h e) (nb:C.base.get? e=none) (x:iK s.heap e T cls fl) (hc:c∈C.exs∧C.mg c=some (.ref cls)):Inv C (Ge γ e) (ρ++[e]) (H++[.inst c]) s:=by
 obtain ⟨oe,vs,oT,ts,h1,⟨h2,h3,h4⟩,⟨_,h5⟩,_⟩:=x
 have kp:cG s.heap ρ (Nl γ ρ H) s.heap (ρ++[e]) (Nl (Ge γ e) (ρ++[e]) (H++[.inst c])):=⟨fun _ o q _=>⟨o,q,.refl o⟩,fun b q=>.inl (q.imp (fN I.len rfl) id),fun i b q=>by rw [List.getElem?_append_left (List.getElem?_eq_some_iff.mp q).1]; exact q⟩
 have cs: ∀ {i:Nat} {a:Addr} {o:HO},(ρ++[e])[i]?= some a→(H++[.inst c])[i]?= some o→(ρ[i]?= some a∧H[i]?= some o)∨(a=e∧o=.inst c):=fun {i a o} q1 q2=>by
  by_cases hi:i < H.length
  ·rw [List.getElem?_append_left (I.len▸hi)] at q1
   rw [List.getElem?_append_left hi] at q2
   exact .inl ⟨q1,q2⟩
  ·rw [List.getElem?_append_right (by rw [I.len]; exact Nat.le_of_not_lt hi),I.len] at q1
   rw [List.getElem?_append_right (Nat.le_of_not_lt hi)] at q2
   cases hk:i - H.length with
   | zero=>rw [hk] at q1 q2; cases q1; cases q2; exact .inr ⟨rfl,rfl⟩
   | succ n=>rw [hk] at q1; cases q1
 have mem: ∀ {a:Addr},a∈ρ++[e]→a∈ρ∨a=e:=fun q=>(List.mem_append.mp q).imp id List.mem_singleton.mp
 refine ⟨I.base,by simp [I.len],List.nodup_append.mpr ⟨I.nodup,by simp,fun x hx y hy q=>ne (by rw [List.mem_singleton.mp hy] at q; exact q▸hx)⟩,fun a q=>(mem q).elim (I.fresh a) fun z=>z▸nb,fun a q=>(mem q).elim (I.there a) fun z=>z▸⟨oe,h1⟩,fun i a o q1 q2=>?_,fun a q z=>(mem q).elim (fun q=>I.apart a q z) fun q=>absurd (q▸z) nh,fun i a o q1 z q2=>?_,I.held,I.off,I.frm,fun a q=>?_,fun z=>absurd (List.mem_append.mpr (.inr List.mem_cons_self)) (z c),I.gens,I.os⟩
 ·rcases cs q1 q2 with ⟨q1,q2⟩ | ⟨rfl,rfl⟩
  ·exact (I.obj i a o q1 q2).kept kp fun _ q=>q
  ·exact ⟨hc.1,oe,cls,vs,h1,hc.2,h2,h3,h4⟩
 ·rcases cs q1 q2 with ⟨q1,q2⟩ | ⟨rfl,rfl⟩
  ·exact I.bor i a o q1 z q2
  ·exact absurd (γ.bh _ z) nh
 ·obtain rfl:a=e:=q
  exact ⟨⟨oe,vs,h1,h4,h5⟩,fun z=>by obtain ⟨i,o,z1,_⟩:=fN I.len rfl z; exact ne (List.mem_of_getElem? z1),nh⟩
theorem Fra.handle {c:String} (F:Fra γ env st ρ s) (hl:ρ.length=st.H.length):Fra (Ge γ e) env ⟨st.s,st.H++[.inst c]⟩ (ρ++[e]) s:=by
 have kp:cG s.heap ρ (Nl γ ρ st.H) s.heap (ρ++[e]) (Nl (Ge γ e) (ρ++[e]) (st.H++[.inst c])):=⟨fun _ o q _=>⟨o,q,.refl o⟩,fun b q=>.inl (q.imp (fN hl rfl) id),fun i b q=>by rw [List.getElem?_append_left (List.getElem?_eq_some_iff.mp q).1]; exact q⟩
 obtain ⟨m,hm,hv⟩:=F.ns
 refine ⟨F.kind,F.glob,F.blt,fun z=>F.nl (fN hl rfl z),F.own,⟨m,hm,fun y v k kz q=>let ⟨mv,e1,e2⟩:=hv y v k kz q; ⟨mv,e1,e2.kept kp⟩⟩,fun n k=>?_,F.apart,F.nb,F.nbc⟩
 obtain ⟨c',ov,h1,h2,h3,h4⟩:=F.cell n k
 exact ⟨c',ov,h1,⟨fun z=>h2.1 (fN hl rfl z),h2.2⟩,h3,fun y hy v q=>let ⟨mv,e1,e2⟩:=h4 y hy v q; ⟨mv,e1,e2.kept kp⟩⟩
theorem rN {n:Nat} {y:String} {v:V} (h:(st.cut n).s y=some v):st.s y=some v∧low n v:=by
 obtain ⟨u,h1,h2⟩:=Option.bind_eq_some_iff.mp h
 by_cases q:low n u
 ·rw [if_pos q] at h2; cases h2; exact ⟨h1,q⟩
 ·rw [if_neg q] at h2; cases h2
theorem Fra.cut {n:Nat} (F:Fra (Ge γ e) env st ρ s):Fra γ env (st.cut n) (ρ.take n) s:=by
 have cN: ∀ a,Nl γ (ρ.take n) (st.H.take n) a→Nl (Ge γ e) ρ st.H a:=fun a q=>q.imp dm id
 obtain ⟨m,hm,hv⟩:=F.ns
 refine ⟨F.kind,F.glob,F.blt,fun z=>F.nl (dm z),F.own,⟨m,hm,fun x v k kz q=>?_⟩,fun y k=>?_,F.apart,F.nb,F.nbc⟩
 ·obtain ⟨q1,q2⟩:=rN q
  obtain ⟨mv,e1,e2⟩:=hv x v k kz q1
  exact ⟨mv,e1,e2.cut cN q2⟩
 ·obtain ⟨c,ov,h1,h2,h3,h4⟩:=F.cell y k
  refine ⟨c,ov,h1,⟨fun z=>h2.1 (dm z),h2.2⟩,h3,fun z hz v q=>?_⟩
  obtain ⟨q1,q2⟩:=rN q
  obtain ⟨mv,e1,e2⟩:=h4 z hz v q1
  exact ⟨mv,e1,e2.cut cN q2⟩
theorem bO.mark (hr:bO k A γ):bO k (A.mark (some (.ref e))) (Ge γ e):=⟨hr.depth,hr.units,fun v q=>⟨e,(Option.some.inj q).symm,rfl⟩,hr.frs⟩
theorem Top.mark (h:Top A env) {v:Option Value}:Top (A.mark v) env:=h
theorem sJ {c:String} {m:List Nat} {arg:Expr} {np cpos pos:Pos} (hk:ce sc c=true) (hc:c∈C.exs) (hes:SEs C k sc (.cons (.str m) .nil) [arg]):SS C k sc (.raise c) (.Raise (some (.Call (.Name (c:Str) np) [arg] [] cpos)) none pos):=by
 intro env A s γ ρ st Q X hs hr ht I F w
 obtain ⟨cls,⟨hb,bm,N,nm,q,bs,hdct,sn,sub,ab,col,dd,k0,k1,k2,k3,k5,mN,hC,hN,hni,T⟩,_⟩:=C.hexs c hc
 rw [← hs] at hk
 simp only [ce,Bool.and_eq_true,beq_iff_eq,Bool.not_eq_true',kd] at hk
 refine wpAny_Raise_call_subT (C:=cls) (N:=N) (nm:=nm) (q:=q) (bs:=bs) (bm:=bm) (hdct:=hdct) (sn:=sn) (sub:=sub) (ab:=ab) (col:=col) (dd:=dd) (k0:=k0) (k1:=k1) (k2:=k2) (k3:=k3) (k5:=k5) PySem.F.excBase_ValueError (T.hasType rfl) (hr.handled I w.1) (cU hes.1) hni ?_
 refine Calls.Name_function_global F.kind hk.1 (Calls.loadGlobal_global (mg:=C.mg) (by rw [F.glob]; exact C.g.keeps I.base) hb ⟨rfl,?_⟩) hk.2
 refine wpAny_mono (bR (X:=fun _ _=>False) hes hs hr (At.start I F) (W:=fun _ st'=>st'=st) (by exact rfl) fun ms s₁ vs st₁ ρ₁ hn w₁ r₁ a₁ S₁=>?_) (fun _ _ x=>x) fun _ _ p=>?_
 ·subst w₁
  have kp: ∀ b o,C.base.get? b=some o→s₁.heap.get? b=some o:=a₁.inv.base
  refine ⟨rfl,?_,kp _ _ hC,hN.keeps kp,T.keeps kp,fun h' e hme=>?_⟩
  ·rw [hn]; show 1≤sizeLine; decide
  obtain ⟨t,ht,_,_⟩:=hme.there
  have S2:Stp ρ₁ st₁.H s₁ ρ₁ st₁.H { s₁ with heap:=h' }:=Stp.of_keep hme.keeps
  exact ⟨c,st₁,ρ₁,w.2,.inr ⟨e,cls,t,rfl,⟨hc,hb⟩,a₁.stp.back a₁.inv e hme.new,ht⟩,a₁.inv.of_keep hme.keeps rfl rfl,a₁.fra.step S2 rfl,(a₁.stp.trans S2).w⟩
 ·obtain ⟨_,_,_,z,_⟩:=p; exact z.elim
theorem uH {ev:Value} {c c':String} {np hp:Pos} {nm:Option Str} {body:List Stmt} {Qf:PySem.Flow→Shared→Prop} {Ex:Value→Shared→Prop} {st':St} (hr:bO (2*k+1) A γ) (ht:Top A env) (I:Inv C γ ρ st.H s) (I1:Inv C γ ρ' st'.H s₁) (F1:Fra γ env st' ρ' s₁) (S1:cv (Own env) ρ st.H s ρ' st'.H s₁)
  (x:iY C s.heap s₁ ev c'∨pP C s.heap s₁ ev c') (nz:ak st'.H) (hc:c∈C.exs) (hk:ce env.scope c=true) (hcat:eM c c'=true)
  (suite: ∀ e T cls s₂,s.heap.get? e=none→s.heap.get? T=none→(c'∈C.exs∧C.mg c'=some (.ref cls))→iK s₂.heap e T cls .none→Inv C γ ρ' st'.H s₂→Fra γ env st' ρ' s₂→cv (Own env) ρ st.H s ρ' st'.H s₂→
   codeAny C.M (A.mark (some (.ref e))) (.handlers (.ref e) [.ExceptHandler none nm body hp] env) (fun r s₂=>match r with
     | .ok f=>(match (generalizing:=false) nm with
      | none=>Qf f s₂
      | some n=>wpAny C.M A (do bindName env n .none; unbindBehindTheSuite env n hp) (fun _ s₃=>Qf f s₃) Ex s₂)
     | .error x=>cameBackBy C.M A env Ex x s₂) s₂):
  wpAny C.M A (noteFrame ev env) (fun _ s₂=>wpAny C.M A (setFlight ev none) (fun _ s₃=>wpAny C.M A (handleBy ev env [.ExceptHandler (some (.Name (c:Str) np)) nm body hp]) Qf Ex s₃) Ex s₂) Ex s₁:=by
 obtain ⟨l,hfr⟩:=ht
 obtain ⟨l',hfr',hl⟩:=hr.frs
 rw [hfr] at hfr'; cases hfr'
 obtain ⟨_,L,hL,_⟩:=hl env List.mem_cons_self
 refine yW hfr hL hl I1.frm (fun a o q=>?_) x fun h' e T hev he hT xo sl x'=>?_
 ·cases z:s₁.heap.get? a with
  | some o'=>exact ⟨o',rfl⟩
  | none=>have:=S1.back I1 F1 a z; rw [q] at this; cases this
 subst hev
 have nbe:=I.none_above he
 have nbT:=I.none_above hT
 have I2:=I1.slip nz nbe nbT xo sl
 have F2:=F1.slip xo sl
 have S2:=S1.slip he hT sl
 obtain ⟨e',cls,T',rfl',hc',_,hT',xa⟩:=x'
 cases rfl'
 obtain ⟨clsH,⟨⟨hmH,_⟩,_⟩⟩:=C.hexs c hc
 refine wpAny_handleBy_cons (codeAny_handlers_test (gA (st:=st') I2 F2 hmH hk ?_)) (by intro q; cases q)
 obtain ⟨cls',⟨⟨h0,_⟩,K,hK,_,_,h3⟩⟩:=C.hexs c' hc'.1
 have h0:C.mg (c':Str)=some (.ref cls'):=h0
 rw [hc'.2] at h0; cases h0
 obtain ⟨z,z1,_,z3⟩:=h3 c hc
 rw [show C.mg (c:Str)=some (.ref clsH) from hmH] at z1; cases z1
 have xa':=xa
 obtain ⟨oe,vs,oT,ts,q1,⟨q2,q3,q4⟩,_⟩:=xa
 have inst:PySem.W.InstAt h' e oe cls none:=⟨q1,q2,by unfold PySem.W.notCls; rw [q4],by rw [q3]; trivial⟩
 exact mD (s:={ s₁ with heap:=h' }) (fun a o q=>I2.base a o (hK a o q)) inst (z3 hcat) (suite e T' cls _ he hT' hc' xa' I2 F2 S2)
theorem yX {e:Addr} {st':St} (I:Inv C γ ρ st.H s) (I1:Inv C γ ρ' st'.H s₁) (S1:cv W ρ st.H s ρ' st'.H s₁) (hl:st'.H.length=st.H.length) (he:s.heap.get? e=none):e ∉ ρ':=fun q=>by
 obtain ⟨i,hi⟩:=List.mem_iff_getElem?.mp q
 have lt:i < ρ.length:=by rw [I.len,← hl,← I1.len]; exact (List.getElem?_eq_some_iff.mp hi).1
 have h1:=S1.pre i _ (List.getElem?_eq_getElem lt)
 rw [hi] at h1
 obtain ⟨o,ho⟩:=I.there _ (List.getElem_mem lt)
 rw [← Option.some.inj h1,he] at ho; cases ho
theorem bU.cut {h:Heap} {N N':Addr→Prop} {n:Nat} {f:Flow} {fl:PySem.Flow} (hN: ∀ a,N' a→N a) (r:bU h ρ N f fl) (l:AD n f):bU h (ρ.take n) N' f fl:=by
 cases r with
 | next=>exact .next
 | brk=>exact .brk
 | cont=>exact .cont
 | ret r=>exact .ret (r.cut hN l)
theorem uI {e:Addr} {Q:Flow→St→Prop} {f:Flow} {fl:PySem.Flow} {st4:St} {ρ4:List Addr} {s4:Shared} (I:Inv C γ ρ st.H s) (nz0:ak st.H) (lo:st4.H.take st.H.length=st.H) (lf:AD st.H.length f) (hQ:Q f (st4.cut st.H.length))
  (hfl:bU s4.heap ρ4 (Nl (Ge γ e) ρ4 st4.H) f fl) (I4:Inv C (Ge γ e) ρ4 st4.H s4) (F4:Fra (Ge γ e) env st4 ρ4 s4) (S4:cv (Own env) ρ st.H s ρ4 st4.H s4):fm C γ env ρ st s Q fl s4:=by
 have hq:=I.hq nz0
 have I5:Inv C γ ρ4 st4.H s4:=I4.drop (fun _ q=>q) (fun _ q=>q) (fun b q=>absurd q (hq b)) fun _=>Iff.rfl
 refine ⟨f,st4.cut st.H.length,ρ4.take st.H.length,hQ,hfl.cut (fun a q=>q.imp dm id) lf,I5.cut (fun _=>hq) fun i o hi ho=>I.lowO (i:=i) (by rw [← lo,List.getElem?_take,if_pos hi]; exact ho),F4.cut,S4.cut (by rw [I.len]; exact Nat.le_refl _)⟩
theorem xL {b h:Ss} {c:String} {pb ph:List Stmt} {np hp pos:Pos} (hk:ce sc c=true) (hc:c∈C.exs) (hne:ph≠[]) (hb:SSs C k sc b pb) (hh:SSs C k sc h ph):SS C k sc (.try_ b c none h) (.Try pb [.ExceptHandler (some (.Name (c:Str) np)) none ph hp] [] [] pos):=by
 intro env A s γ ρ st Q X hs hr ht I F w
 obtain ⟨nz0,w⟩:=w
 refine wpAny_Try_except (wpAny_mono (hb env A s γ ρ st _ _ hs hr ht I F w) (fun fl s₁ p=>?_) fun ev s₁ p=>?_)
 ·obtain ⟨f,st',ρ',h1,h2,h3,h4,h5⟩:=p
  cases h2 with
  | next=>exact wpAny_execs_nil ⟨_,st',ρ',h1,.next,h3,h4,h5⟩
  | brk=>exact ⟨_,st',ρ',h1,.brk,h3,h4,h5⟩
  | cont=>exact ⟨_,st',ρ',h1,.cont,h3,h4,h5⟩
  | ret r=>exact ⟨_,st',ρ',h1,.ret r,h3,h4,h5⟩
 ·obtain ⟨c',st',ρ',⟨⟨hlen,nz,hcat⟩,w'⟩,hx,I1,F1,S1⟩:=p
  cases ph with
  | nil=>exact absurd rfl hne
  | cons b0 bs=>
   refine uH hr ht I I1 F1 S1 hx nz hc (hs▸hk) hcat fun e T cls s₂ he hT hcc xa I2 F2 S2=>?_
   refine codeAny_handlers_suite (fH (γ:=γ) xa fun h₃ sl x3=>?_)
   have I3:=I2.slip nz (I.none_above he) (I.none_above hT) xa.exo sl
   have F3:=F2.slip xa.exo sl
   have S3:=S2.slip he hT sl
   have I4:=I3.handle (yX I I1 S1 hlen he) (I.ghost_new he) (I.none_above he) x3 hcc
   have F4:=F3.handle (e:=e) (c:=c') I3.len
   have S4:=S3.snoc (a:=e) (o:=.inst c') I3.len rfl
   refine wpAny_mono (hh env (A.mark (some (.ref e))) _ (Ge γ e) (ρ'++[e]) ⟨st'.s,st'.H++[HO.inst c']⟩ _ _ hs hr.mark ht.mark I4 F4 w') (fun fl s₅ p=>?_) fun _ _ p=>p.none
   obtain ⟨f',st5,ρ5,⟨lf,lo,hQ⟩,hfl,I5,F5,S5⟩:=p
   exact uI I nz0 lo lf hQ hfl I5 F5 (S4.trans S5)
end
end
noncomputable section
open PySem PyProof.Rows
noncomputable def Eb (e:Expr):Option { x:Expr×Expr×Pos // e=.Subscript x.1 x.2.1 x.2.2 }:=match e with
 | .Subscript a i p=>some ⟨(a,i,p),rfl⟩
 | _=>none
noncomputable def BF (e:Expr):Option { x:Expr×List Comprehension×Scope×Pos // e=.ListComp x.1 x.2.1 x.2.2.1 x.2.2.2 }:=match e with
 | .ListComp a g c p=>some ⟨(a,g,c,p),rfl⟩
 | _=>none
noncomputable def tS (f:Stmt→S):List Stmt→Ss
 | []=>.nil
 | s::r=>.cons (f s) (tS f r)
noncomputable def BO (N:Nm) (sc:Scope) (c:Expr→E) (c':Scope→Expr→E) (y:Str) (e:Expr):S:=(nm N.all y).elim .stuck fun x=>bif jV sc x.1 then
  (bif !dc e then .asg x.1 (c e) else (BF e).elim .stuck fun z=>.asg x.1 (zv N sc c (c' z.1.2.2.1) z.1.1 z.1.2.1 z.1.2.2.1)) else .stuck
noncomputable def CN (N:Nm) (sc:Scope) (c:Expr→E) (c':Scope→Expr→E) (ts:List Expr) (e:Expr):S:=(one ts).elim .stuck fun t=>
 (lc t.1).elim ((Eb t.1).elim ((zi t.1).elim .stuck fun z=>(nm N.all z.1.2.1).elim .stuck fun x=>bif !dc e && N.ats.contains x.1 then .asgAttr (c z.1.1) x.1 (c e) else .stuck) fun z=>bif !dc e then .asgSub (c z.1.1) (c z.1.2.1) (c e) else .stuck) fun y=>BO N sc c c' y.1.1 e
noncomputable def BG (e:Expr):Option { x:Expr×List Expr×List Keyword×Pos // e=.Call x.1 x.2.1 x.2.2.1 x.2.2.2 }:=match e with
 | .Call f es kw p=>some ⟨(f,es,kw,p),rfl⟩
 | _=>none
noncomputable def BE (e:E):Option { m:List Nat // e=.str m }:=match e with
 | .str m=>some ⟨m,rfl⟩
 | _=>none
noncomputable def Ed (h:ExceptHandler):Option { x:Expr×Option Str×List Stmt×Pos // h=.ExceptHandler (some x.1) x.2.1 x.2.2.1 x.2.2.2 }:=match h with
 | .ExceptHandler (some t) n b p=>some ⟨(t,n,b,p),rfl⟩
 | _=>none
noncomputable def un (N:Nm) (sc:Scope) (c:Expr→E) (e:Expr):S:=(BG e).elim .stuck fun x=>(lc x.1.1).elim .stuck fun y=>(nm N.all y.1.1).elim .stuck fun g=>(one x.1.2.1).elim .stuck fun a=>(BE (c a.1)).elim .stuck fun _=>
 bif ce sc g.1 && N.exs.contains g.1 && bq a.1 && x.1.2.2.1.isEmpty then .raise g.1 else .stuck
noncomputable def CG (N:Nm) (sc:Scope) (f:List Stmt→Ss) (b:List Stmt) (hs:List ExceptHandler) (o fi:List Stmt):S:=bif o.isEmpty && fi.isEmpty then (one hs).elim .stuck fun h=>(Ed h.1).elim .stuck fun x=>(lc x.1.1).elim .stuck fun y=>(nm N.all y.1.1).elim .stuck fun c=>
 bif ce sc c.1 && N.exs.contains c.1 && !x.1.2.2.1.isEmpty then x.1.2.1.elim (.try_ (f b) c.1 none (f x.1.2.2.1)) fun _=>.stuck else .stuck else .stuck
noncomputable def CL (N:Nm) (sc:Scope) (c:Expr→E) (b:Ss) (x it:Expr) (o:List Stmt):S:=(lc x).elim .stuck fun y=>(nm N.all y.1.1).elim .stuck fun z=>bif o.isEmpty && jV sc z.1 && !bE it then .for_ z.1 (c it) b else .stuck
noncomputable def cS (N:Nm):Nat→Scope→Stmt→S
 | 0=>fun _ _=>.stuck
 | n+1=>fun sc ps=>match ps with
  | .Expr e _=>bif !dc e then .ex (cE N n sc e) else .stuck
  | .Assign ts e _=>CN N sc (cE N n sc) (fun cs=>cE N n (du cs sc)) ts e
  | .If c t f _=>.ite (cE N n sc c) (tS (cS N n sc) t) (tS (cS N n sc) f)
  | .While c b o _=>bif o.isEmpty then .whl (cE N n sc c) (tS (cS N n sc) b) else .stuck
  | .For x it b o _=>CL N sc (cE N n sc) (tS (cS N n sc) b) x it o
  | .Return e _=>e.elim .stuck fun pe=>.ret (cE N n sc pe)
  | .Continue _=>.cont
  | .Pass _=>.pass
  | .Raise e f _=>bif f.isNone then e.elim .stuck fun pe=>un N sc (cE N n sc) pe else .stuck
  | .Try b hs o fi _=>CG N sc (tS (cS N n sc)) b hs o fi
  | _=>.stuck
noncomputable def cSs (N:Nm) (n:Nat) (sc:Scope) (pss:List Stmt):Ss:=tS (cS N n sc) pss
section
variable {C:Cx} {k:Nat} {sc:Scope} {ps:Stmt}
theorem bB {α β:Type} {P:β→Prop} {o:Option α} {g:α→β} {d:β} (h0:P d) (h: ∀ x,P (g x)):P (o.elim d g):=by
 cases o with
 | none=>exact h0
 | some x=>exact h x
theorem fJ {β:Type} {P:β→Prop} {b:Bool} {e d:β} (h0:P d) (h:b=true→P e):P (bif b then e else d):=by
 cases b with
 | false=>exact h0
 | true=>exact h rfl
theorem kB {l:List String} {c c':Expr→E} {cs:Scope} (ih: ∀ pe,Snd C k sc (c pe) pe) (ih': ∀ pe,Snd C k (du cs sc) (c' pe) pe) {y:String} (hy:jV sc y=true) {elt:Expr} {gs:List Comprehension} {py p sp:Pos}:
  SS C k sc (.asg y (zv (C.nm l) sc c c' elt gs cs)) (.Assign [.Name (y:Str) py] (.ListComp elt gs cs p) sp):=by
 have h0:SS C k sc (.asg y .stuck) (.Assign [.Name (y:Str) py] (.ListComp elt gs cs p) sp):=fun _ _ _ _ _ _ _ _ _ _ _ _ _ w=>False.elim w
 refine bB (P:=fun e=>SS C k sc (.asg y e) _) h0 fun g=>?_
 obtain ⟨⟨tg,it,ifs,asy⟩,rfl⟩:=g
 refine bB (P:=fun e=>SS C k sc (.asg y e) _) h0 fun z=>?_
 obtain ⟨⟨z,q⟩,hz⟩:=z
 have hz:tg=.Name z q:=hz
 subst hz
 refine bB (P:=fun e=>SS C k sc (.asg y e) _) h0 fun x=>?_
 obtain ⟨x,hx⟩:=x
 have hx:(x:Str)=z:=hx
 subst hx
 refine fJ (P:=fun e=>SS C k sc (.asg y e) _) h0 fun h=>?_
 obtain ⟨h,h3⟩:=bN h
 obtain ⟨h1,h2⟩:=bN h
 have h3:asy=0:=beq_iff_eq.mp h3
 subst h3
 refine bB (P:=fun e=>SS C k sc (.asg y e) _) (fJ (P:=fun e=>SS C k sc (.asg y e) _) h0 fun e=>?_) fun pc=>?_
 ·have e:ifs=[]:=List.isEmpty_iff.mp e
  subst e
  exact lQ hy h1 (pq h2) (ih' elt).1 (ih it).1
 ·obtain ⟨pc,hp⟩:=pc
  have hp:ifs=[pc]:=hp
  subst hp
  exact jH hy h1 (pq h2) (ih' elt).1 (ih it).1 (ih' pc).2
theorem uY {l:List String} {c:Expr→E} {c':Scope→Expr→E} (ih: ∀ pe,Snd C k sc (c pe) pe) (ih': ∀ cs pe,Snd C k (du cs sc) (c' cs pe) pe) {ts:List Expr} {e:Expr} {sp:Pos}:SS C k sc (CN (C.nm l) sc c c' ts e) (.Assign ts e sp):=by
 refine bB (P:=fun x=>SS C k sc x _) av fun t=>?_
 obtain ⟨t,rfl⟩:=t
 refine bB (P:=fun x=>SS C k sc x _) (bB (P:=fun x=>SS C k sc x _) (bB (P:=fun x=>SS C k sc x _) av fun z=>bB (P:=fun x=>SS C k sc x _) av fun x=>fJ (P:=fun x=>SS C k sc x _) av fun h=>?_) fun z=>fJ (P:=fun x=>SS C k sc x _) av fun h=>?_) fun y=>?_
 ·obtain ⟨⟨a,y,q⟩,hz⟩:=z
  have hz:t=.Attribute a y q:=hz
  subst hz
  obtain ⟨x,hx⟩:=x
  have hx:(x:Str)=y:=hx
  subst hx
  exact oP (List.contains_iff_mem.mp (bN h).2) (pq (bN h).1) (ih a).1 (ih e).1
 ·obtain ⟨⟨a,i,q⟩,hz⟩:=z
  have hz:t=.Subscript a i q:=hz
  subst hz
  exact ql (pq h) (ih a).1 (ih i).1 (ih e).1
 ·obtain ⟨⟨y,q⟩,hy⟩:=y
  have hy:t=.Name y q:=hy
  subst hy
  refine bB (P:=fun x=>SS C k sc x _) av fun x=>?_
  obtain ⟨x,hx⟩:=x
  have hx:(x:Str)=y:=hx
  subst hx
  refine fJ (P:=fun x=>SS C k sc x _) av fun hl=>fJ (P:=fun x=>SS C k sc x _) (bB (P:=fun x=>SS C k sc x _) av fun z=>?_) fun h=>xP hl (pq h) (ih e).1
  obtain ⟨⟨elt,gs,cs,p⟩,rfl⟩:=z
  exact kB ih (ih' cs) hl
theorem gX {f:Stmt→S} (h: ∀ ps,SS C k sc (f ps) ps): ∀ pss:List Stmt,SSs C k sc (tS f pss) pss
 | []=>uT
 | ps::r=>sI (h ps) (gX h r)
theorem uX {l:List String} {c:Expr→E} {b:Ss} {x it:Expr} {pb o:List Stmt} {p:Pos} (ih: ∀ pe,Snd C k sc (c pe) pe) (hb:SSs C k sc b pb):SS C k sc (CL (C.nm l) sc c b x it o) (.For x it pb o p):=by
 refine bB (P:=fun x=>SS C k sc x _) av fun y=>?_
 obtain ⟨⟨y,q⟩,rfl⟩:=y
 refine bB (P:=fun x=>SS C k sc x _) av fun z=>?_
 obtain ⟨z,hz⟩:=z
 have hz:(z:Str)=y:=hz
 subst hz
 refine fJ (P:=fun x=>SS C k sc x _) av fun h=>?_
 obtain ⟨h,h3⟩:=bN h
 obtain ⟨h1,h2⟩:=bN h
 have h1:o=[]:=List.isEmpty_iff.mp h1
 subst h1
 exact xO h2 (pq h3) (ih it).1 hb
theorem qk {l:List String} {c:Expr→E} (ih: ∀ pe,Snd C k sc (c pe) pe) {e:Expr} {p:Pos}:SS C k sc (un (C.nm l) sc c e) (.Raise (some e) none p):=by
 refine bB (P:=fun x=>SS C k sc x _) av fun x=>?_
 obtain ⟨⟨f,es,kw,q⟩,rfl⟩:=x
 refine bB (P:=fun x=>SS C k sc x _) av fun y=>?_
 obtain ⟨⟨y,np⟩,hy⟩:=y
 have hy:f=.Name y np:=hy
 subst hy
 refine bB (P:=fun x=>SS C k sc x _) av fun g=>?_
 obtain ⟨g,hg⟩:=g
 have hg:(g:Str)=y:=hg
 subst hg
 refine bB (P:=fun x=>SS C k sc x _) av fun a=>?_
 obtain ⟨a,ha⟩:=a
 have ha:es=[a]:=ha
 subst ha
 refine bB (P:=fun x=>SS C k sc x _) av fun m=>fJ (P:=fun x=>SS C k sc x _) av fun h=>?_
 obtain ⟨h,h4⟩:=bN h
 obtain ⟨h,h3⟩:=bN h
 obtain ⟨h1,h2⟩:=bN h
 have h4:kw=[]:=List.isEmpty_iff.mp h4
 subst h4
 have hs:SEs C k sc (lO c [a]) [a]:=dt ih (by rw [List.all_cons,show bq a=true from h3]; rfl)
 rw [lO,show c a=.str m.1 from m.2] at hs
 exact sJ h1 (List.contains_iff_mem.mp h2) hs
theorem uW {l:List String} {f:List Stmt→Ss} (hf: ∀ pss,SSs C k sc (f pss) pss) {b:List Stmt} {hs:List ExceptHandler} {o fi:List Stmt} {p:Pos}:SS C k sc (CG (C.nm l) sc f b hs o fi) (.Try b hs o fi p):=by
 refine fJ (P:=fun x=>SS C k sc x _) av fun h0=>bB (P:=fun x=>SS C k sc x _) av fun h=>?_
 have h1:o=[]:=List.isEmpty_iff.mp (bN h0).1
 have h2:fi=[]:=List.isEmpty_iff.mp (bN h0).2
 subst h1 h2
 obtain ⟨h,rfl⟩:=h
 refine bB (P:=fun x=>SS C k sc x _) av fun x=>?_
 obtain ⟨⟨t,n,ph,hp⟩,hx⟩:=x
 have hx:h=.ExceptHandler (some t) n ph hp:=hx
 subst hx
 refine bB (P:=fun x=>SS C k sc x _) av fun y=>?_
 obtain ⟨⟨y,np⟩,hy⟩:=y
 have hy:t=.Name y np:=hy
 subst hy
 refine bB (P:=fun x=>SS C k sc x _) av fun c=>?_
 obtain ⟨c,hc⟩:=c
 have hc:(c:Str)=y:=hc
 subst hc
 refine fJ (P:=fun x=>SS C k sc x _) av fun h=>?_
 obtain ⟨h,h3⟩:=bN h
 obtain ⟨h1,h2⟩:=bN h
 cases n with
 | none=>exact xL h1 (List.contains_iff_mem.mp h2) (cX h3) (hf b) (hf ph)
 | some z=>
  exact av
theorem tT {l:List String}: ∀ (n:Nat) (sc:Scope) (ps:Stmt),SS C k sc (cS (C.nm l) n sc ps) ps
 | 0,_,_=>av
 | n+1,sc,ps=>by
  have ih:=tT (l:=l) n sc
  have ie:=fun sc=>tU (C:=C) (k:=k) (l:=l) n sc
  cases ps with
  | Expr e p=>exact fJ (P:=fun x=>SS C k sc x _) av fun h=>AW (pq h) (ie sc e).1
  | Assign ts e p=>exact uY (ie sc) fun cs=>ie (du cs sc)
  | If c t f p=>exact xN (ie sc c).2 (gX ih t) (gX ih f)
  | While c b o p=>
   refine fJ (P:=fun x=>SS C k sc x _) av fun h=>?_
   have h:o=[]:=List.isEmpty_iff.mp h
   subst h
   exact xK (ie sc c).2 (gX ih b)
  | For x it b o p=>exact uX (ie sc) (gX ih b)
  | Return e p=>
   cases e with
   | none=>exact av
   | some pe=>exact xM (ie sc pe).1
  | Continue p=>exact uV
  | Pass p=>exact uU
  | Raise e f p=>
   refine fJ (P:=fun x=>SS C k sc x _) av fun h=>?_
   have h:f=none:=Option.isNone_iff_eq_none.mp h
   subst h
   cases e with
   | none=>exact av
   | some pe=>exact qk (ie sc)
  | Try b hs o fi p=>exact uW (gX ih)
  | _=>exact av
theorem uZ {l:List String} (n:Nat) (sc:Scope) (pss:List Stmt):SSs C k sc (cSs (C.nm l) n sc pss) pss:=gX (tT n sc) pss
end
end
noncomputable section
open PySem PyProof.Rows
noncomputable def eN:List String→List V→String→Option V
 | []=>fun _ _=>.none
 | p::ps=>fun vs x=>vs.head?.bind fun v=>if x=p then some v else eN ps vs.tail x
noncomputable def lH (ps:List String) (vs:List Value):List (Str×Value):=(ps.zip vs).map fun x=>((x.1:Str),x.2)
structure CP (C:Cx) (f:String) (ps:List String) (ss:Ss) (fa:Addr) (o:Obj) (fd:FuncData) (body:List Stmt):Prop where
 mg:C.fa f=some fa
 obj:C.base.get? fa=some o
 data:o.data=.func fd
 code:C.base.CodeRec fd.code fd.qualname
 text:fd.body=.stmts body
 closure:fd.closure=[]
 globals:fd.globals=mainGlobals
 builtins:fd.builtins=builtinsNs
 kind:fd.scope.kind=.function
 co:fd.scope.isCoroutine=false
 gen:fd.scope.isGenerator=false
 bind: ∀ vals:List Value,vals.length=ps.length→bindArgs fd ⟨vals,[]⟩=pure (lH ps vals)
 params: ∀ p∈ps,kd fd.scope p=some .local∨kd fd.scope p=some .cell
 nofree: ∀ n,fd.scope.names.lookup n≠some .free
 nodup:ps.Nodup
 sound: ∀ k,SSs C k fd.scope ss body
noncomputable def br (C:Cx) (f:String) (ps:List String) (ss:Ss):Prop:=∃ fa o fd body,CP C f ps ss fa o fd body
theorem sE {x:Str×Value} {ps:List String} {vs:List Value} (h:x∈lH ps vs): ∃ p∈ps,x.1=(p:Str):=by
 obtain ⟨y,h1,rfl⟩:=List.mem_map.mp h
 exact ⟨y.1,(List.of_mem_zip h1).1,rfl⟩
section
variable {kindOf:Str→Option NameKind} {h:Heap} {ρ:List Addr} {N:Addr→Prop}
theorem jm {a:Str} {v:Value} {l:List (Str×Value)} {m:Str→Option Value}:bindL kindOf ((a,v)::l) m=bindL kindOf l (if kindOf a=some .local then fun y=>if y=a then some v else m y else m):=rfl
theorem jn {a:Str} {v:Value} {l:List (Str×Value)} {m:Str→Option Value}:bindC kindOf ((a,v)::l) m=bindC kindOf l (if kindOf a=some .local then m else fun y=>if y=a then some v else m y):=rfl
theorem mQ {x:String} (ps:List String): ∀ (ms:List Value) (m:Str→Option Value),x ∉ ps→bindL kindOf (lH ps ms) m x=m x:=by
 induction ps with
 | nil=>exact fun _ _ _=>rfl
 | cons p ps ih=>
  intro ms m hx
  cases ms with
  | nil=>rfl
  | cons v ms=>
   rw [show lH (p::ps) (v::ms)=((p:Str),v)::lH ps ms from rfl,jm,ih ms _ fun q=>hx (List.mem_cons_of_mem _ q)]
   split
   ·exact if_neg fun e=>hx (List.mem_cons.mpr (.inl (fv e)))
   ·rfl
theorem mR {x:String} (ps:List String): ∀ (ms:List Value) (m:Str→Option Value),x ∉ ps→bindC kindOf (lH ps ms) m x=m x:=by
 induction ps with
 | nil=>exact fun _ _ _=>rfl
 | cons p ps ih=>
  intro ms m hx
  cases ms with
  | nil=>rfl
  | cons v ms=>
   rw [show lH (p::ps) (v::ms)=((p:Str),v)::lH ps ms from rfl,jn,ih ms _ fun q=>hx (List.mem_cons_of_mem _ q)]
   split
   ·rfl
   ·exact if_neg fun e=>hx (List.mem_cons.mpr (.inl (fv e)))
theorem rZ {x:String} {v:V} (hk:kindOf x=some .local) (ps:List String): ∀ {vs:List V} {ms:List Value} {m:Str→Option Value},ps.Nodup→aI h ρ N vs ms→eN ps vs x=some v→∃ mv,bindL kindOf (lH ps ms) m x=some mv∧Rel h ρ N v mv:=by
 induction ps with
 | nil=>intro _ _ _ _ _ e; cases e
 | cons p ps ih=>
  intro vs ms m nd r e
  cases r with
  | nil=>cases e
  | @cons v0 m0 vs ms r q=>
   have e:(if x=p then some v0 else eN ps vs x)=some v:=e
   rw [show lH (p::ps) (m0::ms)=((p:Str),m0)::lH ps ms from rfl,jm]
   by_cases hx:x=p
   ·rw [if_pos hx] at e
    cases e
    subst hx
    rw [mQ ps ms _ (List.nodup_cons.mp nd).1,if_pos hk]
    exact ⟨m0,if_pos rfl,r⟩
   ·rw [if_neg hx] at e
    exact ih (List.nodup_cons.mp nd).2 q e
theorem sd {x:String} {v:V} (hk:kindOf x≠some .local) (ps:List String): ∀ {vs:List V} {ms:List Value} {m:Str→Option Value},ps.Nodup→aI h ρ N vs ms→eN ps vs x=some v→∃ mv,bindC kindOf (lH ps ms) m x=some mv∧Rel h ρ N v mv:=by
 induction ps with
 | nil=>intro _ _ _ _ _ e; cases e
 | cons p ps ih=>
  intro vs ms m nd r e
  cases r with
  | nil=>cases e
  | @cons v0 m0 vs ms r q=>
   have e:(if x=p then some v0 else eN ps vs x)=some v:=e
   rw [show lH (p::ps) (m0::ms)=((p:Str),m0)::lH ps ms from rfl,jn]
   by_cases hx:x=p
   ·rw [if_pos hx] at e
    cases e
    subst hx
    rw [mR ps ms _ (List.nodup_cons.mp nd).1,if_neg hk]
    exact ⟨m0,if_pos rfl,r⟩
   ·rw [if_neg hx] at e
    exact ih (List.nodup_cons.mp nd).2 q e
end
section
variable {C:Cx} {k:Nat} {γ γ':Gh} {env:Env} {A:Around} {ρ ρ':List Addr} {H H':List HO} {s s':Shared}
noncomputable def kG:Flow→V
 | .ret v=>v
 | _=>.none
theorem iw {f:String} {ps:List String} {ss:Ss} {args:List V} {Q:V→List HO→Prop} {X:String→List HO→Prop} {fa:Addr} {o:Obj} {fd:FuncData} {body:List Stmt} (F:CP C f ps ss fa o fd body) (hl:args.length=ps.length)
  (w:wSs (Calls C k) C.glo ss ⟨eN ps args,H⟩ (fun fl st=>Q (kG fl) st.H) fun c st=>X c st.H) (hX: ∀ c H',X c H'→ak H') {ms:List Value} {R:Result→Shared→Prop} (hr:bO (2*k+1+1) A γ) (I:Inv C γ ρ H s) (ra:aI s.heap ρ (Nl γ ρ H) args ms)
  (h: ∀ v mv H' ρ' s',Q v H'→Rel s'.heap ρ' (Nl γ ρ' H') v mv→Inv C γ ρ' H' s'→Stp ρ H s ρ' H' s'→R (.ok (.ret mv)) s')
  (hx: ∀ c ev H' ρ' s',X c H'→iY C s.heap s' ev c→Inv C γ ρ' H' s'→Stp ρ H s ρ' H' s'→R (.error ev) s'):codeAny C.M A (.call (.ref fa) ⟨ms,[]⟩) R s:=by
 have hlm:ms.length=ps.length:=by rw [← ra.length,hl]
 have hkinds: ∀ n,∀ x∈lH ps ms,fd.scope.names.lookup x.1=some .local∨(fd.scope.names.lookup x.1=some .cell∧((cellsFrom n fd.scope.names []).lookup x.1).isSome=true):=fun n x hx=>by
  obtain ⟨p,hp,e⟩:=sE hx
  rw [e]
  rcases F.params p hp with q | q
  ·exact .inl q
  ·exact .inr ⟨q,PySem.W.cellsFrom_some _ _ _ (.inl q)⟩
 refine codeAny_call_cells (by have:=hr.depth; unfold recursionLimit; exact lin [_,k] [(1,.a (.a (.v 0) (.a (.a (.m 2 (.v 1)) (.n 1)) (.n 1))) (.n 1),.n 900)] 1 (.a (.v 0) (.n 1)) (.n 1000) rfl this) (I.base _ _ F.obj) F.data (C.nolimit.keeps I.base) ?_ F.text (F.bind ms hlm) F.closure (hkinds _) (fun s₁ ic=>?_) F.co F.gen F.kind
 ·obtain ⟨c,oc,vs,t,e1,e2,e3,e4⟩:=F.code
  exact ⟨c,oc,vs,t,e1,I.base _ _ e2,e3,e4⟩
 generalize hL:s.heap.objs.size=L at ic ⊢
 have fresh: ∀ b,L≤b→s.heap.get? b=none:=fun b hb=>by
  cases e:s.heap.get? b with
  | none=>rfl
  | some o'=>exact absurd (Heap.lt_size e) (by rw [hL]; exact Nat.not_lt.mpr hb)
 obtain ⟨h1,tk,hs1⟩:=ic.toInCall.same
 have g:bP s s₁:=⟨ic.toInCall.keep,by rw [hs1],by rw [hs1]⟩
 let env:=callEnvC fd L fa
 let γ₁:Gh:=⟨fun b=>γ.h b∨b=L∨∃ n,env.cells.lookup n=some b,fun b=>γ.f b∨b=L,fun b q=>q.elim (fun q=>.inl (γ.fh b q)) fun q=>.inr (.inl q),γ.e,γ.b,fun b q=>.inl (γ.bh b q)⟩
 have new: ∀ b,γ₁.h b→γ.h b∨(s.heap.get? b=none∧∃ o,s₁.heap.get? b=some o):=fun b q=>by
  rcases q with q | rfl | ⟨n,q⟩
  ·exact .inl q
  ·exact .inr ⟨fresh _ (Nat.le_refl _),cx ic.toInCall.ns⟩
  ·refine .inr ⟨fresh _ (Nat.le_of_lt (ic.above n b (mem_of_lookup q))),?_⟩
   obtain ⟨o,e,_⟩:=ic.cell n b q
   exact ⟨o,e⟩
 have I1:Inv C γ₁ ρ H s₁:=I.holds g new (fun b q=>q.imp id fun e=>by rw [e]; exact fX ic.toInCall.ns) (fun _ q=>q) fun _=>Iff.rfl
 have K1:cG s.heap ρ (Nl γ ρ H) s₁.heap ρ (Nl γ₁ ρ H):=fF g fun b q=>(new b q).imp id And.left
 have ra1:=ra.kept K1
 have F1:Fra γ₁ env ⟨eN ps args,H⟩ ρ s₁:=by
  refine ⟨F.kind,F.globals,F.builtins,I1.ghost_nl (.inr (.inl rfl)),.inr (.inl rfl),⟨_,ic.toInCall.ns,fun x v k _ q=>rZ k ps F.nodup ra1 q⟩,fun n kn=>?_,fun n n' c q q'=>name_of_addr ic.apart (mem_of_lookup q) (mem_of_lookup q'),fun q=>I.ghost_new (fresh _ (Nat.le_refl _)) (γ.bh _ q),fun n c h=>⟨.inr (.inr ⟨n,h⟩),fun q=>I.ghost_new (fresh _ (Nat.le_of_lt (ic.above n c (mem_of_lookup h)))) (γ.bh _ q)⟩⟩
  have kn:fd.scope.names.lookup n=some .cell:=by
   rcases kn with q | q
   ·exact q
   ·exact absurd q (F.nofree n)
  obtain ⟨c,hc⟩:=Option.isSome_iff_exists.mp (PySem.W.cellsFrom_some (x:=n) fd.scope.names (L+1) [] (.inl kn))
  have hc':env.cells.lookup n=some c:=hc
  refine ⟨c,_,hc',⟨I1.ghost_nl (.inr (.inr ⟨n,hc'⟩)),.inr (.inr ⟨n,hc'⟩)⟩,ic.cell n c hc',fun y hy v q=>?_⟩
  subst hy
  exact sd (by show env.kindOf (y:Str)≠_; rw [show env.kindOf (y:Str)=some .cell from kn]; simp) ps F.nodup ra1 q
 obtain ⟨l0,hl0,_⟩:=hr.frs
 refine wpAny_mono (F.sound k env (A.deeper env) s₁ γ₁ ρ ⟨eN ps args,H⟩ _ _ rfl (hr.deeper env (fun _=>.inl) (fun _ q=>q) (by show fd.scope.kind≠.module; rw [F.kind]; decide) (L:=L) rfl (.inr rfl)) ⟨l0,Around.frames_deeper hl0⟩ I1 F1 w) (fun fl s' p=>?_) fun ev s' p=>?_
 rotate_left
 ·obtain ⟨c,st',ρ',q1,q2,q3,q4,q5⟩:=p
  obtain ⟨l,hl1,hl2⟩:=hr.frs
  have own: ∀ b,Own env b→s.heap.get? b=none:=fun b q=>by
   rcases q with rfl | ⟨n,_,q⟩
   ·exact fresh _ (Nat.le_refl _)
   ·exact fresh _ (Nat.le_of_lt (ic.above n b (mem_of_lookup q)))
  have back: ∀ a,s₁.heap.get? a=none→s.heap.get? a=none:=fun a q=>by
   cases e:s.heap.get? a with
   | none=>rfl
   | some o=>rw [g.keep _ _ e] at q; cases q
  unfold leaving
  refine wpAny_bind (yW (b:=s.heap) (L:=L) (Around.frames_deeper hl1) rfl (fun e he=>?_) q3.frm (fun a o e=>?_) (q2.imp (·.back back) (·.back back)) fun h' e T _ he hT xo sl x=>?_)
  ·rcases List.mem_cons.mp he with rfl | he
   ·exact ⟨by show fd.scope.kind≠.module; rw [F.kind]; decide,L,rfl,.inr rfl⟩
   ·obtain ⟨z1,L',z2,z3⟩:=hl2 e he
    exact ⟨z1,L',z2,.inl z3⟩
  ·cases z:s'.heap.get? a with
   | some o'=>exact ⟨o',rfl⟩
   | none=>have:=q5.back q3 q4 a z; rw [g.keep _ _ e] at this; cases this
  have I2:=q3.slip (hX c _ q1) (I.none_above he) (I.none_above hT) xo sl
  refine hx c ev st'.H ρ' _ q1 x (I2.drop (fun _=>.inl) (fun _=>.inl) (fun _ q=>q) (fun _=>Iff.rfl)) ⟨⟨(fun a o e n=>by
   obtain ⟨o',e1,al⟩:=q5.keep a o (g.keep _ _ e) n fun q=>by rw [own a q] at e; cases e
   obtain ⟨o'',e2,al2,_⟩:=sl.1 a o' e1 (fun z=>by rw [z,he] at e; cases e) fun z=>by rw [z,hT] at e; cases e
   exact ⟨o'',e2,al.trans al2⟩),(fun a q=>by
   by_cases ho:Own env a
   ·exact .inr (own a ho)
   ·rcases q5.live a ho q with z | z
    ·exact .inl z
    ·exact .inr (back a z)),q5.pre⟩⟩
 obtain ⟨f',st',ρ',q1,q2,q3,q4,q5⟩:=p
 have I2:Inv C γ ρ' st'.H s':=q3.drop (fun _=>.inl) (fun _=>.inl) (fun _ q=>q) (fun _=>Iff.rfl)
 have Kl:cG s'.heap ρ' (Nl γ₁ ρ' st'.H) s'.heap ρ' (Nl γ ρ' st'.H):=dB fun _=>.inl
 have own: ∀ b,Own env b→s.heap.get? b=none:=fun b q=>by
  rcases q with rfl | ⟨n,_,q⟩
  ·exact fresh _ (Nat.le_refl _)
  ·exact fresh _ (Nat.le_of_lt (ic.above n b (mem_of_lookup q)))
 have S2:Stp ρ H s ρ' st'.H s':=⟨⟨(fun a o e n=>by
   refine q5.keep a o (g.keep _ _ e) n fun q=>?_
   rw [own a q] at e; cases e),(fun a q=>by
   by_cases ho:Own env a
   ·exact .inr (own a ho)
   ·rcases q5.live a ho q with z | z
    ·exact .inl z
    ·refine .inr ?_
     cases e:s.heap.get? a with
     | none=>rfl
     | some o=>rw [g.keep _ _ e] at z; cases z),q5.pre⟩⟩
 cases q2 with
 | next=>exact h .none .none st'.H ρ' s' q1 .none I2 S2
 | brk=>exact h .none .none st'.H ρ' s' q1 .none I2 S2
 | cont=>exact h .none .none st'.H ρ' s' q1 .none I2 S2
 | ret r=>exact h _ _ st'.H ρ' s' q1 (r.kept Kl) I2 S2
theorem az {f:String} {ps:List String} {ss:Ss} {args:List V} {v:V} (F:br C f ps ss) (hl:args.length=ps.length)
  (w:wSs (Calls C k) C.glo ss ⟨eN ps args,H⟩ (fun fl st=>kG fl=v∧low H.length v∧st.H.take H.length=H) noX):Calls C (k+1) f args H (.ok v) H:=by
 obtain ⟨fa,o,fd,body,F⟩:=F
 intro A s γ ρ ms fa' hr I ra hfa
 have:fa'=fa:=by have:=F.mg; rw [hfa] at this; cases this; rfl
 subst this
 refine iw (Q:=fun u H'=>u=v∧low H.length v∧H'.take H.length=H) (X:=fun _ _=>False) F hl w (fun _ _ h=>h.elim) hr I ra (fun u mv H' ρ' s' q r I' S=>?_) fun _ _ _ _ _ h=>h.elim
 obtain ⟨rfl,q1,q2⟩:=q
 have S':=S.cut (n:=H.length) (by rw [I.len]; exact Nat.le_refl _)
 have I'':Inv C γ (ρ'.take H.length) (H'.take H.length) s':=I'.cut (fun z=>I.hq (q2▸z)) fun i o hi ho=>by
  have:H[i]?= some o:=by rw [← q2,List.getElem?_take,if_pos hi]; exact ho
  exact I.lowO this
 have r':=r.cut (n:=H.length) (N':=Nl γ (ρ'.take H.length) (H'.take H.length)) (fun a q=>q.imp dm id) q1
 rw [q2] at S' I'' r'
 exact ⟨_,r',I'',S'⟩
theorem bv {f:String} {ps:List String} {ss:Ss} {args:List V} {v:V} (F:br C f ps ss) (hl:args.length=ps.length)
  (w:wSs (Calls C k) C.glo ss ⟨eN ps args,H⟩ (fun fl st=>kG fl=v∧st.H=H') noX):Calls C (k+1) f args H (.ok v) H':=by
 obtain ⟨fa,o,fd,body,F⟩:=F
 intro A s γ ρ ms fa' hr I ra hfa
 have:fa'=fa:=by have:=F.mg; rw [hfa] at this; cases this; rfl
 subst this
 refine iw (Q:=fun u H''=>u=v∧H''=H') (X:=fun _ _=>False) F hl w (fun _ _ h=>h.elim) hr I ra (fun u mv H'' ρ' s' q r I' S=>?_) fun _ _ _ _ _ h=>h.elim
 obtain ⟨rfl,rfl⟩:=q
 exact ⟨ρ',r,I',S⟩
theorem pK {f:String} {ps:List String} {ss:Ss} {args:List V} {c:String} (F:br C f ps ss) (hl:args.length=ps.length) (hz:ak H)
  (w:wSs (Calls C k) C.glo ss ⟨eN ps args,H⟩ (fun _ _=>False) fun c' st=>c'=c∧ak st.H∧st.H.take H.length=H):Calls C (k+1) f args H (.err c) H:=by
 obtain ⟨fa,o,fd,body,F⟩:=F
 intro A s γ ρ ms fa' hr I ra hfa
 have:fa'=fa:=by have:=F.mg; rw [hfa] at this; cases this; rfl
 subst this
 refine iw (Q:=fun _ _=>False) (X:=fun c' H'=>c'=c∧ak H'∧H'.take H.length=H) F hl w (fun _ _ h=>h.2.1) hr I ra (fun _ _ _ _ _ h=>h.elim) fun c' ev H' ρ' s' hc x I' S=>?_
 obtain ⟨rfl,_,q2⟩:=hc
 have S':=S.cut (n:=H.length) (by rw [I.len]; exact Nat.le_refl _)
 have I'':Inv C γ (ρ'.take H.length) (H'.take H.length) s':=I'.cut (fun z=>I.hq (q2▸z)) fun i o hi ho=>by
  have:H[i]?= some o:=by rw [← q2,List.getElem?_take,if_pos hi]; exact ho
  exact I.lowO this
 rw [q2] at S' I''
 exact ⟨_,x,I'',S'⟩
end
end
noncomputable section
open PySem
section
variable (Φ:Orc) (G:String→Option V)
noncomputable def Ev (e:E) (st:St) (v:V) (st':St):Prop:=∀ (Q:V→St→Prop) (X:String→St→Prop),Q v st'→wE Φ G e st Q X
noncomputable def Evs (es:Es) (st:St) (vs:List V) (st':St):Prop:=∀ (Q:List V→St→Prop) (X:String→St→Prop),Q vs st'→wEs Φ G es st Q X
noncomputable def sv (es:Es) (st:St) (b:Bool) (st':St):Prop:=∀ (Q:V→St→Prop) (X:String→St→Prop),Q (.bool b) st'→wW Φ G es st Q X
noncomputable def AG (es:Es) (st:St) (b:Bool) (st':St):Prop:=∀ (Q:V→St→Prop) (X:String→St→Prop),Q (.bool b) st'→wOr Φ G es st Q X
end
inductive New (vs:List V) (st:St):V→St→Prop
 | lst:New vs st (.lst vs) st
 | loc:New vs st (.loc st.H.length) ⟨st.s,st.H++[.list vs]⟩
theorem New.w {vs:List V} {st st':St} {v:V} (n:New vs st v st') {Q:V→St→Prop} (q:Q v st'):kO vs st Q:=by
 cases n with
 | lst=>exact .inl q
 | loc=>exact .inr q
section
variable {Φ:Orc} {G:String→Option V} {st st' st₁ st₂ st₃:St} {e a b c i lo hi elt it:E} {es:Es} {v va vb vc vi:V} {vs xs ys:List V} {x f t k:String} {op op':CmpOp} {r r':Bool}
theorem mF:Ev Φ G .none st .none st:=fun _ _ q=>q
theorem ac {n:Int}:Ev Φ G (.int n) st (.int n) st:=fun _ _ q=>q
theorem aA {s:List Nat}:Ev Φ G (.str s) st (.str s) st:=fun _ _ q=>q
theorem aa (h:st.s x=some v):Ev Φ G (.var x) st v st:=fun _ _ q=>⟨v,h,.inl q⟩
theorem rF {j:Nat} (h:st.s x=some (.loc j)) (hH:st.H[j]?= some (.list vs)):Ev Φ G (.var x) st (.lst vs) ⟨st.s,st.H.set j .dead⟩:=fun _ _ q=>⟨_,h,.inr ⟨j,vs,rfl,hH,q⟩⟩
theorem zm (h:G x=some v):Ev Φ G (.glo x) st v st:=fun _ _ q=>⟨v,h,q⟩
theorem aV (h:Evs Φ G es st vs st'):Ev Φ G (.tup es) st (.tup vs) st':=fun _ X q=>h _ X q
theorem aR (h:Evs Φ G es st vs st₁) (n:New vs st₁ v st'):Ev Φ G (.list es) st v st':=fun _ X q=>h _ X (n.w q)
theorem af {o:Operator} (h₁:Ev Φ G a st va st₁) (h₂:Ev Φ G b st₁ vb st₂) (h:Bin o va vb v):Ev Φ G (.bin o a b) st v st₂:=fun _ X q=>h₁ _ X (h₂ _ X (.inl ⟨v,h,q⟩))
theorem uk (h₁:Ev Φ G a st va st₁) (h₂:Ev Φ G b st₁ vb st₂) (h₃:gc st₂.H va xs) (h₄:gc st₂.H vb ys) (hl:xs.length+ys.length≤16000000) (n:New (xs++ys) st₂ v st'):Ev Φ G (.bin .Add a b) st v st':=
 fun _ X q=>h₁ _ X (h₂ _ X (.inr ⟨xs,ys,rfl,h₃,h₄,hl,n.w q⟩))
theorem uj {n:Int} (h:Ev Φ G a st (.int n) st'):Ev Φ G (.neg a) st (.int (-n)) st':=fun _ X q=>h _ X ⟨n,rfl,q⟩
theorem zl (h:Ev Φ G a st (.bool r) st'):Ev Φ G (.not a) st (.bool (!r)) st':=fun _ X q=>h _ X ⟨r,rfl,q⟩
theorem mE (h:Ev Φ G a st (.bool true) st'):Ev Φ G (.not a) st (.bool false) st':=zl h
theorem lr (h:sv Φ G es st r st'):Ev Φ G (.and es) st (.bool r) st':=fun _ X q=>h _ X q
theorem tE (h:AG Φ G es st r st'):Ev Φ G (.or es) st (.bool r) st':=fun _ X q=>h _ X q
theorem so:sv Φ G .nil st true st:=fun _ _ q=>q
theorem km (h₁:Ev Φ G e st (.bool true) st₁) (h₂:sv Φ G es st₁ r st'):sv Φ G (.cons e es) st r st':=fun _ X q=>h₁ _ X ⟨true,rfl,.inl ⟨rfl,h₂ _ X q⟩⟩
theorem wO (h₁:Ev Φ G e st (.bool false) st₁):sv Φ G (.cons e es) st false st₁:=fun _ X q=>h₁ _ X ⟨false,rfl,.inr ⟨rfl,q⟩⟩
theorem nJ:AG Φ G .nil st false st:=fun _ _ q=>q
theorem pV (h₁:Ev Φ G e st (.bool false) st₁) (h₂:AG Φ G es st₁ r st'):AG Φ G (.cons e es) st r st':=fun _ X q=>h₁ _ X ⟨false,rfl,.inr ⟨rfl,h₂ _ X q⟩⟩
theorem jk (h₁:Ev Φ G a st va st₁) (h₂:Ev Φ G b st₁ vb st₂) (h:Cmp st₂.H op va vb r):Ev Φ G (.cmp op a b) st (.bool r) st₂:=fun _ X q=>h₁ _ X (h₂ _ X ⟨r,h,q⟩)
theorem im (h₁:Ev Φ G a st va st₁) (h₂:Ev Φ G b st₁ vb st₂) (h:Cmp st₂.H op va vb true) (h₃:Ev Φ G c st₂ vc st₃) (h':Cmp st₃.H op' vb vc r):Ev Φ G (.cmp2 op op' a b c) st (.bool r) st₃:=
 fun _ X q=>h₁ _ X (h₂ _ X ⟨true,h,.inl ⟨rfl,h₃ _ X ⟨r,h',q⟩⟩⟩)
theorem ag (h₁:Ev Φ G a st va st₁) (h₂:Ev Φ G i st₁ vi st₂) (h:Idx st₂.H va vi v):Ev Φ G (.idx a i) st v st₂:=fun _ X q=>h₁ _ X (h₂ _ X ⟨v,h,q⟩)
inductive Slc (st:St) (l h:Option Int):V→V→St→Prop
 | str (cs:List Nat):Slc st l h (.str cs) (.str (slice cs (iM cs.length l) (iU cs.length h))) st
 | seq {va v:V} {xs:List V} {st':St}:gc st.H va xs→New (slice xs (iM xs.length l) (iU xs.length h)) st v st'→Slc st l h va v st'
theorem Slc.w {l h:Option Int} (z:Slc st l h va v st') {Q:V→St→Prop} (q:Q v st'):wY va l h st Q:=by
 cases z with
 | str cs=>exact .inl ⟨cs,rfl,q⟩
 | seq h1 h2=>exact .inr ⟨_,h1,h2.w q⟩
theorem gH {j:Int} (h₁:Ev Φ G a st va st₁) (o:hi.isOmit=false) (h₂:Ev Φ G hi st₁ (.int j) st₂) (z:Slc st₂ .none (some j) va v st'):Ev Φ G (.slc a .omit hi) st v st':=
 fun _ X q=>h₁ _ X (.inl ⟨rfl,.inr ⟨o,h₂ _ X ⟨j,rfl,z.w q⟩⟩⟩)
theorem eZ {j:Int} (h₁:Ev Φ G a st va st₁) (o:lo.isOmit=false) (h₂:Ev Φ G lo st₁ (.int j) st₂) (z:Slc st₂ (some j) .none va v st'):Ev Φ G (.slc a lo .omit) st v st':=
 fun _ X q=>h₁ _ X (.inr ⟨o,h₂ _ X ⟨j,rfl,.inl ⟨rfl,z.w q⟩⟩⟩)
theorem eK {H':List HO} (h:Evs Φ G es st vs st₁) (hc:Φ f vs st₁.H (.ok v) H'):Ev Φ G (.call f es) st v ⟨st₁.s,H'⟩:=fun _ X q=>h _ X (.inl ⟨v,H',hc,q⟩)
theorem ah (h:Evs Φ G es st vs st₁) (hc:Φ f vs st₁.H (.ok v) st₁.H):Ev Φ G (.call f es) st v st₁:=eK h hc
theorem aH {g:BN} (h:Evs Φ G es st vs st₁) (hb:Blt st₁.H g vs v):Ev Φ G (.blt g es) st v st₁:=fun _ X q=>h _ X (.inl ⟨v,hb,q⟩)
theorem bu {g:BN} (h:Evs Φ G es st vs st₁) (hb:zC st₁.H g vs xs) (n:New xs st₁ v st'):Ev Φ G (.blt g es) st v st':=fun _ X q=>h _ X (.inr ⟨xs,hb,n.w q⟩)
theorem ou (h:Ev Φ G a st va st₁) (hk:sD st₁.H va k) (e:sy k t=r):Ev Φ G (.isi a t) st (.bool r) st₁:=fun _ X q=>h _ X ⟨k,hk,e▸q⟩
theorem ot {m:MN} (h₁:Ev Φ G a st va st₁) (hr:Rcv st₁.H va m) (h₂:Evs Φ G es st₁ vs st₂) (h:Mth st₂.H m va vs v):Ev Φ G (.mth m a es) st v st₂:=fun _ X q=>h₁ _ X ⟨hr,h₂ _ X (.inl ⟨v,h,q⟩)⟩
theorem aN {j:Nat} (h₁:Ev Φ G a st (.loc j) st₁) (hr:st₁.H[j]?= some (.list ys)) (h₂:Evs Φ G es st₁ [v] st₂) (hx:st₂.H[j]?= some (.list xs)) (hl:xs.length < 16000000):Ev Φ G (.mth .append a es) st .none ⟨st₂.s,st₂.H.set j (.list (xs++[v]))⟩:=
 fun _ X q=>h₁ _ X ⟨.append (.loc hr),h₂ _ X (.inr (.inl ⟨j,xs,v,⟨rfl,rfl,rfl⟩,hx,hl,q⟩))⟩
theorem rE {j:Nat} (h₁:Ev Φ G a st (.loc j) st₁) (hx:st₁.H[j]?= some (.list (xs++[v]))):Ev Φ G (.mth .pop a .nil) st v ⟨st₁.s,st₁.H.set j (.list xs)⟩:=fun _ X q=>h₁ _ X ⟨.pop (.loc hx),.inr (.inr (.inl ⟨j,xs,v,⟨rfl,rfl,rfl⟩,hx,q⟩))⟩
theorem mG {m:MN} (h₁:Ev Φ G a st va st₁) (hr:Rcv st₁.H va m) (h₂:Evs Φ G es st₁ vs st₂) (h:BU m va vs xs) (n:New xs st₂ v st'):Ev Φ G (.mth m a es) st v st':=fun _ X q=>h₁ _ X ⟨hr,h₂ _ X (.inr (.inr (.inr (.inl ⟨xs,h,n.w q⟩))))⟩
theorem bC {j:Nat} {fs:List (String×V)} (h:Ev Φ G a st va st₁) (o:fn st₁.H va j fs) (e:fs.lookup x=some v):Ev Φ G (.attr a x) st v st₁:=fun _ X q=>h _ X ⟨j,fs,v,o,e,q⟩
theorem bH {m:String} {j:Nat} {fs:List (String×V)} {H':List HO} (h₁:Ev Φ G a st va st₁) (o:fn st₁.H va j fs) (e:fs.lookup m=.none) (h₂:Evs Φ G es st₁ vs st₂) (hc:Φ f (va::vs) st₂.H (.ok v) H'):Ev Φ G (.mcall f m a es) st v ⟨st₂.s,H'⟩:=fun _ X q=>h₁ _ X ⟨⟨j,fs,o,e⟩,h₂ _ X (.inl ⟨v,H',hc,q⟩)⟩
theorem aQ {m:String} {j:Nat} {fs:List (String×V)} (h₁:Ev Φ G a st va st₁) (o:fn st₁.H va j fs) (e:fs.lookup m=.none) (h₂:Evs Φ G es st₁ vs st₂) (hc:Φ f (va::vs) st₂.H (.ok v) st₂.H):Ev Φ G (.mcall f m a es) st v st₂:=bH h₁ o e h₂ hc
theorem mH {H':List HO} (h:Evs Φ G es st vs st₁) (hc:Φ "Store.__init__" (.loc (st₁.H.length+1)::vs) (st₁.H++[.attrs []]++[.obj st₁.H.length]) (.ok .none) H'):Ev Φ G (.make es) st (.loc (st₁.H.length+1)) ⟨st₁.s,H'⟩:=fun _ X q=>h _ X (.inl ⟨H',hc,q⟩)
theorem kb:Ev Φ G .dict st (.loc st.H.length) ⟨st.s,st.H++[.dictS []]⟩:=fun _ _ q=>q
theorem aF:Evs Φ G .nil st [] st:=fun _ _ q=>q
theorem gG (h₁:Ev Φ G e st v st₁) (h₂:Evs Φ G es st₁ vs st'):Evs Φ G (.cons e es) st (v::vs) st':=fun _ X q=>h₁ _ X (h₂ _ X q)
theorem aE (h₁:Ev Φ G e st v st'):Evs Φ G (.cons e .nil) st [v] st':=gG h₁ aF
theorem bG (h₁:Ev Φ G a st va st₁) (h₂:Ev Φ G b st₁ vb st'):Evs Φ G (.cons a (.cons b .nil)) st [va,vb] st':=gG h₁ (aE h₂)
theorem sC (h₁:Ev Φ G a st va st₁) (h₂:Ev Φ G b st₁ vb st₂) (h₃:Ev Φ G c st₂ vc st'):Evs Φ G (.cons a (.cons b (.cons c .nil))) st [va,vb,vc] st':=gG h₁ (bG h₂ h₃)
theorem tI {α:Type} {f:V→St→(List V→St→Prop)→Prop} {K:List V→St→Prop} (g:α→V) (p:α→Bool) (q:α→V) (rs:List α): ∀ (acc:List V),
  (∀ r∈rs,∀ K':List V→St→Prop,K' (if p r then [q r] else []) st→f (g r) st K')→K (acc++(rs.filter p).map q) st→fK f (rs.map g) acc st K:=by
 induction rs with
 | nil=>intro acc _ kk; rw [show acc++List.map q (List.filter p [])=acc from List.append_nil _] at kk; exact kk
 | cons r rs ih=>
  intro acc h kk
  refine h r List.mem_cons_self _ (ih _ (fun u hu=>h u (List.mem_cons_of_mem _ hu)) ?_)
  rw [List.append_assoc]
  rw [List.filter_cons] at kk
  cases e:p r with
  | true=>rw [e,if_pos rfl] at kk; rw [if_pos rfl]; exact kk
  | false=>rw [e,if_neg Bool.false_ne_true] at kk; rw [if_neg Bool.false_ne_true]; exact kk
theorem aW {α:Type} {g q:α→V} {p:α→Bool} {rs:List α} (hi:Ev Φ G it st vi st₁) (hs:dQ vi (rs.map g)) (hc: ∀ r∈rs,Ev Φ G c (st₁.set x (g r)) (.bool (p r)) (st₁.set x (g r))) (he: ∀ r∈rs,p r=true→Ev Φ G elt (st₁.set x (g r)) (q r) (st₁.set x (g r)))
  (n:New ((rs.filter p).map q) st₁ v st'):Ev Φ G (.compIf elt x it c) st v st':=
 fun _ X qq=>hi _ X ⟨_,hs,tI g p q rs [] (fun r hr K' hK=>hc r hr _ _ (by
  cases e:p r with
  | true=>rw [e,if_pos rfl] at hK; exact .inl ⟨rfl,he r hr e _ _ hK⟩
  | false=>rw [e,if_neg Bool.false_ne_true] at hK; exact .inr ⟨rfl,hK⟩)) (n.w qq)⟩
theorem cD {α:Type} {g q:α→V} {rs:List α} (hi:Ev Φ G it st vi st₁) (hs:dQ vi (rs.map g)) (he: ∀ r∈rs,Ev Φ G elt (st₁.set x (g r)) (q r) (st₁.set x (g r))) (n:New (rs.map q) st₁ v st'):Ev Φ G (.compX elt x it) st v st':=
 fun _ X qq=>hi _ X (.inl ⟨_,hs,tI g (fun _=>true) q rs [] (fun r hr K' hK=>he r hr _ _ hK) (by rw [List.filter_eq_self.mpr fun _ _=>rfl]; exact n.w qq)⟩)
theorem rG {α:Type} {g q:α→V} {rs:List α} {j:Nat} (hi:Ev Φ G it st (.loc j) st₁) (hs:st₁.H[j]?= some (.list (rs.map g))) (he: ∀ r∈rs,Ev Φ G elt ((St.mk st₁.s (st₁.H.set j .dead)).set x (g r)) (q r) ((St.mk st₁.s (st₁.H.set j .dead)).set x (g r))):Ev Φ G (.compX elt x it) st (.lst (rs.map q)) st₁:=
 fun Q X qq=>hi _ X (.inr ⟨j,_,rfl,hs,tI g (fun _=>true) q rs [] (fun r hr K' hK=>he r hr _ _ hK) (.inl (by
  have lt:=(List.getElem?_eq_some_iff.mp hs).1
  refine ⟨List.getElem?_set_self lt,?_⟩
  rw [List.filter_eq_self.mpr fun _ _=>rfl]
  have e:(st₁.H.set j .dead).set j (.list (rs.map g))=st₁.H:=by rw [List.set_set,← (List.getElem?_eq_some_iff.mp hs).2,List.set_getElem_self]
  show Q (.lst ([]++rs.map q)) ⟨st₁.s,(st₁.H.set j .dead).set j (.list (rs.map g))⟩
  rw [e]; exact qq))⟩)
theorem eH {α:Type} {g q:α→V} {rs:List α} (hi:Ev Φ G it st vi st₁) (hs:dQ vi (rs.map g)) (he: ∀ r∈rs,Ev Φ G elt (st₁.set x (g r)) (q r) (st₁.set x (g r))) (n:New (rs.map q) st₁ v st'):Ev Φ G (.comp elt x it) st v st':=
 fun _ X qq=>hi _ X ⟨_,hs,tI g (fun _=>true) q rs [] (fun r hr K' hK=>he r hr _ _ hK) (by rw [List.filter_eq_self.mpr fun _ _=>rfl]; exact n.w qq)⟩
section
variable {ss tt ff bb:Ss} {Q:Flow→St→Prop} {X:String→St→Prop}
theorem aG {K:St→Prop} (h:K st):dl K Q .next st:=.inl ⟨rfl,h⟩
theorem bS {K:St→Prop} (h:Q (.ret v) st):dl K Q (.ret v) st:=.inr ⟨fun e=>Flow.noConfusion e,h⟩
theorem aZ (h:Q .next st):wSs Φ G .nil st Q X:=h
theorem aw (h:Ev Φ G e st v st₁) (w:wSs Φ G ss (st₁.set x v) Q X):wSs Φ G (.cons (.asg x e) ss) st Q X:=h _ _ (aG w)
theorem fq (h:Ev Φ G e st v st₁) (w:wSs Φ G ss st₁ Q X):wSs Φ G (.cons (.ex e) ss) st Q X:=h _ _ (aG w)
theorem aM (h:Ev Φ G e st v st₁) (w:Q (.ret v) st₁):wSs Φ G (.cons (.ret e) ss) st Q X:=h _ _ (bS w)
theorem cV (h:Ev Φ G c st (.bool true) st₁) (w:wSs Φ G tt st₁ (dl (fun st=>wSs Φ G ss st Q X) Q) X):wSs Φ G (.cons (.ite c tt ff) ss) st Q X:=h _ _ ⟨true,rfl,.inl ⟨rfl,w⟩⟩
theorem sS (h:Ev Φ G c st (.bool false) st₁) (w:wSs Φ G ff st₁ (dl (fun st=>wSs Φ G ss st Q X) Q) X):wSs Φ G (.cons (.ite c tt ff) ss) st Q X:=h _ _ ⟨false,rfl,.inr ⟨rfl,w⟩⟩
theorem aY (h:Ev Φ G c st (.bool false) st₁) (w:wSs Φ G ss st₁ Q X):wSs Φ G (.cons (.ite c tt .nil) ss) st Q X:=sS h (show dl (fun st=>wSs Φ G ss st Q X) Q .next st₁ from aG w)
theorem sT {j:Nat} {n:Int} (h₁:Ev Φ G e st v st₁) (h₂:Ev Φ G a st₁ (.loc j) st₂) (h₃:Ev Φ G i st₂ (.int n) st₃) (hx:st₃.H[j]?= some (.list xs)) (h0:0≤n) (hl:n.toNat < xs.length) (w:wSs Φ G ss ⟨st₃.s,st₃.H.set j (.list (xs.set n.toNat v))⟩ Q X):
  wSs Φ G (.cons (.asgSub a i e) ss) st Q X:=h₁ _ _ (h₂ _ _ (h₃ _ _ (.inl ⟨j,n,xs,⟨rfl,rfl⟩,hx,h0,hl,aG w⟩)))
theorem qx {j:Nat} {k:List Nat} {kvs:List (List Nat×V)} (h₁:Ev Φ G e st v st₁) (h₂:Ev Φ G a st₁ (.loc j) st₂) (h₃:Ev Φ G i st₂ (.str k) st₃) (hx:st₃.H[j]?= some (.dictS kvs)) (hl:kvs.length < 1000000) (w:wSs Φ G ss ⟨st₃.s,st₃.H.set j (.dictS (nF k v kvs))⟩ Q X):
  wSs Φ G (.cons (.asgSub a i e) ss) st Q X:=h₁ _ _ (h₂ _ _ (h₃ _ _ (.inr (.inl ⟨j,k,kvs,⟨rfl,rfl⟩,hx,hl,aG w⟩))))
theorem ny {j:Nat} {fs:List (String×V)} (h₁:Ev Φ G e st v st₁) (h₂:Ev Φ G a st₁ va st₂) (o:fn st₂.H va j fs) (hl:fs.length < 900) (w:wSs Φ G ss ⟨st₂.s,st₂.H.set j (.attrs (sA x v fs))⟩ Q X):wSs Φ G (.cons (.asgAttr a x e) ss) st Q X:=
 h₁ _ _ (h₂ _ _ ⟨j,fs,o,hl,aG w⟩)
noncomputable def EvX (Φ:Orc) (G:String→Option V) (e:E) (st:St) (c:String) (st':St):Prop:=∀ (Q:V→St→Prop) (X:String→St→Prop),X c st'→wE Φ G e st Q X
theorem tD {m c:String} {j:Nat} {fs:List (String×V)} {H':List HO} (h₁:Ev Φ G a st va st₁) (o:fn st₁.H va j fs) (e:fs.lookup m=.none) (h₂:Evs Φ G es st₁ vs st₂) (hc:Φ f (va::vs) st₂.H (.err c) H'):EvX Φ G (.mcall f m a es) st c ⟨st₂.s,H'⟩:=fun _ X q=>h₁ _ X ⟨⟨j,fs,o,e⟩,h₂ _ X (.inr ⟨c,H',hc,q⟩)⟩
theorem rD {m c:String} {j:Nat} {fs:List (String×V)} (h₁:Ev Φ G a st va st₁) (o:fn st₁.H va j fs) (e:fs.lookup m=.none) (h₂:Evs Φ G es st₁ vs st₂) (hc:Φ f (va::vs) st₂.H (.err c) st₂.H):EvX Φ G (.mcall f m a es) st c st₂:=tD h₁ o e h₂ hc
theorem AZ {c:String} (h:EvX Φ G e st c st₁) (w:X c st₁):wSs Φ G (.cons (.ex e) ss) st Q X:=h _ _ w
theorem vD {c:String} (nz:ak st.H) (w:X c st):wSs Φ G (.cons (.raise c) ss) st Q X:=⟨nz,w⟩
theorem AY {hh:Ss} {c:String} {y:Option String} (nz:ak st.H) (w:wSs Φ G bb st (dl (fun st=>wSs Φ G ss st Q X) Q) fun c' st'=>(st'.H.length=st.H.length∧ak st'.H∧eM c c'=true)∧
   wSs Φ G hh (st'.exc c' y) (fun f st₂=>AD st.H.length f∧st₂.H.take st.H.length=st.H∧dl (fun st=>wSs Φ G ss st Q X) Q f ((st₂.unx y).cut st.H.length)) noX):wSs Φ G (.cons (.try_ bb c y hh) ss) st Q X:=⟨nz,w⟩
theorem vC (J:Nat→St→Prop) (n:Nat) (h0:J n st) (step: ∀ m st,J (m+1) st→∃ st₁,Ev Φ G c st (.bool true) st₁∧∀ Q':Flow→St→Prop,(∀ st',J m st'→Q' .next st'∧Q' .cont st')→wSs Φ G bb st₁ Q' noX)
  (done: ∀ st,J 0 st→∃ st₁,Ev Φ G c st (.bool false) st₁∧wSs Φ G ss st₁ Q X):wSs Φ G (.cons (.whl c bb) ss) st Q X:=by
 refine ⟨n+1,?_⟩
 have key: ∀ m st,J m st→nc (fun st Q=>wT Φ G c st Q noX) (fun st Q=>wSs Φ G bb st Q noX) (m+1) st (dl (fun st=>wSs Φ G ss st Q X) Q):=by
  intro m
  induction m with
  | zero=>
   intro st h
   obtain ⟨st₁,e,w⟩:=done st h
   exact e _ _ ⟨false,rfl,.inr ⟨rfl,aG w⟩⟩
  | succ m ih=>
   intro st h
   obtain ⟨st₁,e,w⟩:=step m st h
   exact e _ _ ⟨true,rfl,.inl ⟨rfl,w _ fun st' h'=>⟨.inl ⟨rfl,ih st' h'⟩,.inr (.inl ⟨rfl,ih st' h'⟩)⟩⟩⟩
 exact key n st h0
theorem tB {f:V→St→(Flow→St→Prop)→Prop} (items:List V): ∀ (J:Nat→St→Prop) (st:St),J 0 st→
  (∀ i v st,items[i]?= some v→J i st→∀ Q':Flow→St→Prop,(∀ st',J (i+1) st'→Q' .next st'∧Q' .cont st')→f v st Q')→(∀ st,J items.length st→Q .next st)→tC f items st Q:=by
 induction items with
 | nil=>exact fun J st h0 _ fin=>fin st h0
 | cons v r ih=>exact fun J st h0 step fin=>step 0 v st rfl h0 _ fun st' h'=>
   have go:=ih (fun i=>J (i+1)) st' h' (fun i u st hu hj=>step (i+1) u st hu hj) fun st h=>fin st h
   ⟨.inl ⟨rfl,go⟩,.inr (.inl ⟨rfl,go⟩)⟩
theorem tA {f:V→St→(Flow→St→Prop)→Prop} {R:V→St→Prop} (hR: ∀ u st,R u st→Q (.ret u) st) (items:List V): ∀ (J:Nat→St→Prop) (st:St),J 0 st→
  (∀ i v st,items[i]?= some v→J i st→∀ Q':Flow→St→Prop,(∀ st',J (i+1) st'→Q' .next st'∧Q' .cont st')→(∀ u st',R u st'→Q' (.ret u) st')→f v st Q')→(∀ st,J items.length st→Q .next st)→tC f items st Q:=by
 induction items with
 | nil=>exact fun J st h0 _ fin=>fin st h0
 | cons v r ih=>exact fun J st h0 step fin=>step 0 v st rfl h0 _ (fun st' h'=>
   have go:=ih (fun i=>J (i+1)) st' h' (fun i u st hu hj=>step (i+1) u st hu hj) fun st h=>fin st h
   ⟨.inl ⟨rfl,go⟩,.inr (.inl ⟨rfl,go⟩)⟩) fun u st' h'=>.inr (.inr (.inr ⟨u,rfl,hR u st' h'⟩))
theorem yi {items:List V} (J:Nat→St→Prop) (R:V→St→Prop) (h:Ev Φ G it st vi st₁) (hs:dQ vi items) (h0:J 0 st₁)
  (step: ∀ i v st,items[i]?= some v→J i st→∀ Q':Flow→St→Prop,(∀ st',J (i+1) st'→Q' .next st'∧Q' .cont st')→(∀ u st',R u st'→Q' (.ret u) st')→wSs Φ G bb (st.set x v) Q' noX) (hR: ∀ u st,R u st→Q (.ret u) st) (w: ∀ st,J items.length st→wSs Φ G ss st Q X):wSs Φ G (.cons (.for_ x it bb) ss) st Q X:=
 h _ _ (.inl ⟨items,hs,tA (fun u st q=>bS (hR u st q)) items J _ h0 step fun st h=>aG (w st h)⟩)
theorem eh {items:List V} (J:Nat→St→Prop) (h:Ev Φ G it st vi st₁) (hs:dQ vi items) (h0:J 0 st₁)
  (step: ∀ i v st,items[i]?= some v→J i st→∀ Q':Flow→St→Prop,(∀ st',J (i+1) st'→Q' .next st'∧Q' .cont st')→wSs Φ G bb (st.set x v) Q' noX) (w: ∀ st,J items.length st→wSs Φ G ss st Q X):wSs Φ G (.cons (.for_ x it bb) ss) st Q X:=
 h _ _ (.inl ⟨items,hs,tB items J _ h0 step fun st h=>aG (w st h)⟩)
end
end
end
noncomputable section
open PySem
noncomputable def fe:Ss:=
 (.cons (.ite (.cmp .Lt (.var "_law_k") (.blt .len (.cons (.var "_law_script") .nil))) (.cons (.ret (.idx (.var "_law_script") (.var "_law_k")))
 .nil) .nil)
 (.cons (.ret (.int 0))
 .nil))
section
variable {Φ:Orc} {G:String→Option V} {st st' st₁ st₂:St} {a b e:E} {es:Es} {va vb:V} {x:String} {op:CmpOp} {r r':Bool} {C:Cx} {k:Nat} {H:List HO}
theorem ai (h₁:Ev Φ G a st va st₁) (h₂:Ev Φ G b st₁ vb st₂) (h:Cmp st₂.H op va vb r) (e:r=r'):Ev Φ G (.cmp op a b) st (.bool r') st₂:=e▸jk h₁ h₂ h
theorem cf {v v':V} (h:Ev Φ G e st v st₁) (q:v=v'):Ev Φ G e st v' st₁:=q▸h
theorem dF {n:Nat} (h:n≤1000000):dQ (.rng 0 n 1) ((List.range n).map fun i:Nat=>V.int i):=by
 have e:(cz 0 n 1).map V.int=(List.range n).map fun i:Nat=>V.int i:=by
  rw [cz,List.map_map,show (((n:Int) - 0+1 - 1) / 1).toNat=n by rw [Int.sub_zero,Int.add_sub_cancel,Int.ediv_one,Int.toNat_natCast]]
  refine List.map_congr_left fun i _=>?_
  show V.int (0+1*(i:Int))=_
  rw [Int.one_mul,Int.zero_add]
 rw [← e]
 exact .rng (by decide) (by decide) ⟨Int.le_trans (by decide) (Int.natCast_nonneg n),Int.ofNat_le.mpr h⟩
theorem rm {n i:Nat} {v:V} (h:((List.range n).map fun i:Nat=>V.int (i:Int))[i]?= some v):i < n∧v=.int i:=by
 rw [List.getElem?_map] at h
 obtain ⟨j,h1,rfl⟩:=Option.map_eq_some_iff.mp h
 obtain ⟨h2,rfl⟩:=List.getElem?_eq_some_iff.mp h1
 rw [List.length_range] at h2
 exact ⟨h2,by rw [List.getElem_range]⟩
theorem aB {v:V} {st:St} (h:st.H=H) (l:low H.length v):kG (.ret v)=v∧low H.length v∧st.H.take H.length=H:=⟨rfl,l,by rw [h,List.take_length]⟩
theorem rH (a b:Int):eqB (.int a) (.int b)=decide (a=b):=rfl
theorem qN {a:Int}:(!eqB (.int a) (.int a))=false:=by rw [rH,decide_eq_true rfl]; rfl
theorem mI (a:List Nat):eqB (.str a) (.str a)=true:=by
 show ((⟨a.toArray⟩:Str) == ⟨a.toArray⟩)=true
 exact beq_self_eq_true _
theorem cP {a b:Int}:Cmp H .NotEq (.int a) (.int b) (!eqB (.int a) (.int b)):=.ne (.self _) (.self _) rfl rfl
theorem rW (F:br C "_law_cell_at" ["_law_script", "_law_k"] fe) (ns:List Int) (j:Nat):Calls C (k+1) "_law_cell_at" [.lst (ns.map .int),.int j] H (.ok (.int (ns.getD j 0))) H:=by
 refine az F rfl ?_
 by_cases h:j < ns.length
 ·refine cV (ai (aa rfl) (aH (aE (aa rfl)) (.len (.seq (.lst _)))) (.lt _ _) (decide_eq_true (by rw [List.length_map]; exact Int.ofNat_lt.mpr h))) (aM (ag (aa rfl) (aa rfl) (.seq (.lst _) (Int.natCast_nonneg j) ?_)) (bS (aB rfl trivial)))
  rw [Int.toNat_natCast,List.getElem?_map,List.getD_eq_getElem?_getD,List.getElem?_eq_getElem h]; rfl
 ·refine aY (ai (aa rfl) (aH (aE (aa rfl)) (.len (.seq (.lst _)))) (.lt _ _) (decide_eq_false (by rw [List.length_map]; exact fun q=>h (Int.ofNat_lt.mp q)))) (aM (cf ac ?_) (aB rfl trivial))
  rw [List.getD_eq_getElem?_getD,List.getElem?_eq_none (Nat.le_of_not_lt h)]; rfl
noncomputable def pr (t:Int×Int):V:=.tup [.int t.1,.int t.2]
theorem bK (n:Nat): ∀ ts:List (Int×Int),lows n (ts.map pr)
 | []=>trivial
 | _::r=>⟨⟨trivial,trivial,trivial⟩,bK n r⟩
theorem bj {t:Int×Int}:Idx H (pr t) (.int 0) (.int t.1):=.tup (by decide) rfl
theorem gx {t:Int×Int}:Idx H (pr t) (.int 1) (.int t.2):=.tup (by decide) rfl
end
end
noncomputable section
open PySem
noncomputable def dM:Ss:=
 (.cons (.asg "ahead" (.compIf (.var "thing") "thing" (.var "things") (.cmp .Lt (.idx (.var "thing") (.int 0)) (.var "name"))))
 (.cons (.ret (.bin .Add (.bin .Add (.var "ahead") (.list (.cons (.tup (.cons (.var "name") (.cons (.var "value") .nil))) .nil))) (.compIf (.var "thing") "thing" (.var "things") (.cmp .Gt (.idx (.var "thing") (.int 0)) (.var "name")))))
 .nil))
section
variable {C:Cx} {k:Nat} {H:List HO}
noncomputable def bt (ts:List (Int×Int)) (n v:Int):List (Int×Int):=ts.filter (fun t=>decide (t.1 < n))++[(n,v)]++ts.filter (fun t=>decide (n < t.1))
theorem kx (ts:List (Int×Int)) (n v:Int):(bt ts n v).length≤ts.length+1:=by
 rw [bt,List.length_append,List.length_append,List.length_singleton]
 induction ts with
 | nil=>exact Nat.le_refl _
 | cons t ts ih=>
  rw [List.filter_cons,List.filter_cons]
  by_cases h:t.1 < n
  ·rw [if_pos (decide_eq_true h),if_neg (by rw [decide_eq_false (Int.not_lt.mpr (Int.le_of_lt h))]; exact Bool.false_ne_true)]
   rw [List.length_cons,List.length_cons]; exact li [_,_,_] [([1,0,2],[3,0])] [1,0,0,2] [3,0,0] rfl ih
  ·rw [if_neg (by rw [decide_eq_false h]; exact Bool.false_ne_true),List.length_cons]
   split
   ·rw [List.length_cons]; exact li [_,_,_] [([1,0,2],[3,0])] [1,0,2,0] [3,0,0] rfl ih
   ·exact li [_,_,_] [([1,0,2],[3,0])] [1,0,2] [3,0,0] rfl ih
section
variable {Q:Flow→St→Prop}
theorem pY (ts:List (Int×Int)) (n v:Int) (hl:ts.length≤1000000) {u:V} {st':St}
  (nw:New ((bt ts n v).map pr) ((St.mk (eN ["things", "name", "value"] [.lst (ts.map pr),.int n,.int v]) H).set "ahead" (.lst ((ts.filter fun t=>decide (t.1 < n)).map pr))) u st') (hQ:Q (.ret u) st'):
  wSs (Calls C k) C.glo dM ⟨eN ["things", "name", "value"] [.lst (ts.map pr),.int n,.int v],H⟩ Q noX:=by
 have l1:=List.length_filter_le (fun t:Int×Int=>decide (t.1 < n)) ts
 have l2:=List.length_filter_le (fun t:Int×Int=>decide (n < t.1)) ts
 rw [bt,List.map_append,List.map_append] at nw
 refine aw (aW (g:=pr) (q:=pr) (p:=fun t=>decide (t.1 < n)) (rs:=ts) (aa rfl) (.lst _) (fun t _=>jk (ag (aa rfl) ac bj) (aa rfl) (.lt _ _)) (fun t _ _=>aa rfl) .lst) ?_
 refine aM (uk (uk (aa rfl) (aR (aE (aV (bG (aa rfl) (aa rfl)))) .lst) (.lst _) (.lst _) ?_ .lst)
  (aW (g:=pr) (q:=pr) (p:=fun t=>decide (n < t.1)) (rs:=ts) (aa rfl) (.lst _) (fun t _=>jk (ag (aa rfl) ac bj) (aa rfl) (.gt _ _)) (fun t _ _=>aa rfl) .lst) (.lst _) (.lst _) ?_ nw) hQ
 ·rw [List.length_map,List.length_singleton]; exact lin [_,_] [(1,.v 1,.n 1000000),(1,.v 0,.v 1)] 1 (.a (.v 0) (.n 1)) (.n 16000000) rfl hl l1
 ·rw [List.length_append,List.length_map,List.length_singleton,List.length_map]; exact lin [_,_,_] [(2,.v 2,.n 1000000),(1,.v 0,.v 2),(1,.v 1,.v 2)] 1 (.a (.a (.v 0) (.n 1)) (.v 1)) (.n 16000000) rfl hl l1 l2
end
theorem zn (F:br C "with_thing" ["things", "name", "value"] dM) (ts:List (Int×Int)) (n v:Int) (hl:ts.length≤1000000):
  Calls C (k+1) "with_thing" [.lst (ts.map pr),.int n,.int v] H (.ok (.lst ((bt ts n v).map pr))) H:=az F rfl (pY ts n v hl .lst (aB rfl (bK _ _)))
noncomputable def eG (ts us:List (Int×Int)):List (Int×Int):=us.foldl (fun acc t=>bt acc t.1 t.2) ts
theorem qY (us:List (Int×Int)): ∀ ts:List (Int×Int),(eG ts us).length≤ts.length+us.length:=by
 induction us with
 | nil=>exact fun ts=>Nat.le_refl _
 | cons u us ih=>
  intro ts
  have h1:=ih (bt ts u.1 u.2)
  have h2:=kx ts u.1 u.2
  rw [List.length_cons]
  exact Nat.le_trans h1 (by exact li [_,_,_] [([1],[3,0])] [1,2] [3,2,0] rfl h2)
section
variable (H) (ts us:List (Int×Int))
end
end
end
noncomputable section
open PySem
section
variable {C:Cx} {k:Nat} {H:List HO}
noncomputable def bit (b:Bool):Nat:=bif b then 49 else 48
noncomputable def b01 (b:Bool):Int:=if b then 1 else 0
noncomputable def kD (p:Int×List Nat) (w:Int):Int×List Nat:=(p.1 - w*b01 (decide (w≤p.1)),p.2++[bit (decide (w≤p.1))])
noncomputable def worths:List Int:=[128,64,32,16,8,4,2,1]
noncomputable def wZ (m:Int) (i:Nat):Int×List Nat:=(worths.take i).foldl kD (m,[])
noncomputable def sgn (n:Int):List Nat:=(wZ ((171*n+37) % 256) 8).2
theorem qu (ws:List Int): ∀ p:Int×List Nat,(∀ c∈p.2,c=48∨c=49)→(ws.foldl kD p).2.length=p.2.length+ws.length∧∀ c∈(ws.foldl kD p).2,c=48∨c=49:=by
 induction ws with
 | nil=>exact fun p h=>⟨rfl,h⟩
 | cons w ws ih=>
  intro p h
  obtain ⟨h1,h2⟩:=ih (kD p w) fun c hc=>by
   rcases List.mem_append.mp hc with hc | hc
   ·exact h c hc
   ·rw [List.mem_singleton.mp hc]
    cases decide (w≤p.1)
    ·exact .inl rfl
    ·exact .inr rfl
  refine ⟨?_,h2⟩
  rw [List.foldl_cons,h1,kD,List.length_append,List.length_singleton,List.length_cons,Nat.add_assoc,Nat.add_comm 1]
theorem vn (m:Int) (i:Nat) (h:i≤8):(wZ m i).2.length=i∧∀ c∈(wZ m i).2,c=48∨c=49:=by
 obtain ⟨h1,h2⟩:=qu (worths.take i) (m,[]) fun c hc=>by cases hc
 refine ⟨?_,h2⟩
 rw [wZ,h1,List.length_take,Nat.min_eq_left (show i≤worths.length from h)]; exact Nat.zero_add i
theorem pG (b:Bool):ar (b01 b)=[bit b]:=by cases b<;>decide
theorem pO (b:Bool):(b01 b).natAbs < 10 ^ 100:=by cases b<;>decide
theorem gK (a b:List Nat):eqB (.str a) (.str b)=decide (a=b):=by
 show ((⟨a.toArray⟩:Str) == ⟨b.toArray⟩)=_
 rw [Bool.eq_iff_iff,beq_iff_eq,decide_eq_true_eq]
 constructor
 ·intro h
  have h:a.toArray=b.toArray:=congrArg Str.cps h
  exact congrArg Array.toList h
 ·rintro rfl; rfl
theorem wj (a b:Int):leV (.int a) (.int b)=decide (a≤b):=rfl
theorem gp {α:Type} (xs:List α) (n:Nat):slice xs (iM xs.length none) (iU xs.length (some (n:Int)))=xs.take n:=by
 show (xs.take (cut xs.length n)).drop 0=_
 rw [List.drop_zero,cut,if_neg (by lia),Int.toNat_natCast]
 by_cases h:n≤xs.length
 ·rw [Nat.min_eq_left h]
 ·rw [Nat.min_eq_right (by exact li [_,n] [([1,0],[2])] [1] [2] rfl (l_n h)),List.take_length,List.take_of_length_le (by exact li [_,n] [([1,0],[2])] [1] [2] rfl (l_n h))]
end
end
noncomputable section
open PySem
abbrev Up (ts:List (Int×Int)):Prop:=ts.Pairwise fun a b=>a.1 < b.1
theorem gn {ts:List (Int×Int)} (h:Up ts) (n v:Int):Up (bt ts n v):=by
 have f1: ∀ t∈ts.filter (fun t=>decide (t.1 < n)),t.1 < n:=fun t ht=>of_decide_eq_true (List.mem_filter.mp ht).2
 have f2: ∀ t∈ts.filter (fun t=>decide (n < t.1)),n < t.1:=fun t ht=>of_decide_eq_true (List.mem_filter.mp ht).2
 refine List.pairwise_append.mpr ⟨List.pairwise_append.mpr ⟨h.filter _,List.pairwise_singleton _ _,fun a ha b hb=>?_⟩,h.filter _,fun a ha b hb=>?_⟩
 ·rw [List.mem_singleton.mp hb]; exact f1 a ha
 ·rcases List.mem_append.mp ha with ha | ha
  ·exact Int.lt_trans (f1 a ha) (f2 b hb)
  ·rw [List.mem_singleton.mp ha]; exact f2 b hb
theorem ja {ts:List (Int×Int)} {n v:Int} (h: ∀ t∈ts,t.1≠n):(bt ts n v).Perm (ts++[(n,v)]):=by
 have key:(ts.filter (fun t=>decide (t.1 < n))++ts.filter (fun t=>decide (n < t.1))).Perm ts:=by
  have e:ts.filter (fun t=>decide (n < t.1))=ts.filter (fun t=>!decide (t.1 < n)):=List.filter_congr fun t ht=>by
   have:=h t ht
   by_cases q:t.1 < n
   ·rw [decide_eq_true q,decide_eq_false (Int.not_lt.mpr (Int.le_of_lt q))]; rfl
   ·rw [decide_eq_false q,decide_eq_true (by lia)]; rfl
  rw [e]; exact List.filter_append_perm _ _
 rw [bt,List.append_assoc]
 refine (List.Perm.append_left _ List.perm_append_comm).trans ?_
 rw [← List.append_assoc]
 exact key.append_right _
theorem wo (us:List (Int×Int)): ∀ ts:List (Int×Int),Up ts→(∀ u∈us,∀ t∈ts,t.1≠u.1)→us.Pairwise (fun a b=>a.1≠b.1)→Up (eG ts us)∧(eG ts us).Perm (ts++us):=by
 induction us with
 | nil=>exact fun ts h _ _=>⟨h,by rw [List.append_nil]; exact .refl _⟩
 | cons u us ih=>
  intro ts h1 h2 h3
  have pw:=ja (v:=u.2) (h2 u List.mem_cons_self)
  obtain ⟨h4,h5⟩:=ih (bt ts u.1 u.2) (gn h1 _ _) (fun w hw t ht=>by
   rcases List.mem_append.mp (pw.subset ht) with q | q
   ·exact h2 w (List.mem_cons_of_mem _ hw) t q
   ·rw [List.mem_singleton.mp q]; exact (List.pairwise_cons.mp h3).1 w hw) (List.pairwise_cons.mp h3).2
  refine ⟨h4,h5.trans ?_⟩
  have:=pw.append_right us
  rw [List.append_assoc] at this
  exact this
theorem za {a b:Int×Int} (h:a.1 < b.1):leV (pr a) (pr b)=true:=by
 show (if eqB (.int a.1) (.int b.1) then _ else leV (.int a.1) (.int b.1))=true
 rw [rH,decide_eq_false (fun e=>by rw [e] at h; exact Int.lt_irrefl _ h),if_neg Bool.false_ne_true,wj]
 exact decide_eq_true (Int.le_of_lt h)
end
noncomputable section
open PySem
noncomputable def sAt (n:Int) (i:Nat):Nat:=(sgn n).getD i 0
theorem nq (n:Int):(sgn n).length=8∧∀ c∈sgn n,c=48∨c=49:=vn _ 8 (Nat.le_refl _)
theorem eA (n:Int) {i:Nat} (h:i < 8):(sgn n)[((i:Nat):Int).toNat]?= some (sAt n i):=by
 have h':i < (sgn n).length:=(nq n).1▸h
 rw [Int.toNat_natCast,sAt,List.getD_eq_getElem?_getD,List.getElem?_eq_getElem h']; rfl
theorem vE (n:Int) {i:Nat} (h:i < 8):sAt n i=48∨sAt n i=49:=(nq n).2 _ (List.mem_of_getElem? (eA n h))
theorem fI (a b:Nat):eqB (.str [a]) (.str [b])=decide (a=b):=by
 rw [gK,Bool.eq_iff_iff,decide_eq_true_eq,decide_eq_true_eq]
 exact ⟨fun h=>(List.cons.inj h).1,fun h=>h▸rfl⟩
noncomputable def half (i c:Nat) (ts:List (Int×Int)):List (Int×Int):=ts.filter fun t=>decide (sAt t.1 i=c)
end
noncomputable section
abbrev Ts:=List (Int×Int)
abbrev Rm:=List Nat×Ts
noncomputable def dr (b:Nat):Nat→List Nat→Ts→List Rm
 | 0=>fun bs ts=>[(bs,ts)]
 | n+1=>fun bs ts=>if ts.length≤b then [(bs,ts)] else dr b n (bs++[48]) (half bs.length 48 ts)++dr b n (bs++[49]) (half bs.length 49 ts)
theorem ct {b n:Nat} {bs:List Nat} {ts:Ts} (h:ts.length≤b):dr b n bs ts=[(bs,ts)]:=by
 cases n with
 | zero=>rfl
 | succ n=>exact if_pos h
theorem ii {b n:Nat} {bs:List Nat} {ts:Ts} (h: ¬ ts.length≤b):dr b (n+1) bs ts=dr b n (bs++[48]) (half bs.length 48 ts)++dr b n (bs++[49]) (half bs.length 49 ts):=if_neg h
theorem cj {b:Nat} {P:Nat→List Nat→Ts→List Rm→Prop} (h0: ∀ bs ts,P 0 bs ts [(bs,ts)]) (h1: ∀ n bs ts,ts.length≤b→P (n+1) bs ts [(bs,ts)])
  (h2: ∀ n bs ts x y,¬ ts.length≤b→x=dr b n (bs++[48]) (half bs.length 48 ts)→y=dr b n (bs++[49]) (half bs.length 49 ts)→P n (bs++[48]) (half bs.length 48 ts) x→P n (bs++[49]) (half bs.length 49 ts) y→P (n+1) bs ts (x++y)): ∀ n bs ts,P n bs ts (dr b n bs ts):=by
 intro n
 induction n with
 | zero=>exact h0
 | succ n ih=>
  intro bs ts
  by_cases h:ts.length≤b
  ·rw [ct h]; exact h1 n bs ts h
  ·rw [ii h]; exact h2 n bs ts _ _ h rfl rfl (ih _ _) (ih _ _)
theorem jN {bs w:List Nat} {c:Nat} (h:bs++[c] <+: w):bs <+: w:=(List.prefix_append bs [c]).trans h
theorem de {b:Nat}: ∀ n bs ts,∀ x∈dr b n bs ts,bs <+: x.1:=
 cj (P:=fun _ bs _ l=>∀ x∈l,bs <+: x.1) (fun bs ts x h=>by rw [List.mem_singleton.mp h]; exact List.prefix_refl _) (fun n bs ts _ x h=>by rw [List.mem_singleton.mp h]; exact List.prefix_refl _)
  fun n bs ts x y _ _ _ h1 h2 z hz=>(List.mem_append.mp hz).elim (fun q=>jN (h1 z q)) fun q=>jN (h2 z q)
theorem lb {b:Nat}: ∀ n bs ts,(∀ c∈bs,c=48∨c=49)→∀ x∈dr b n bs ts,x.1.length≤bs.length+n∧∀ c∈x.1,c=48∨c=49:=by
 refine cj (P:=fun n bs _ l=>(∀ c∈bs,c=48∨c=49)→∀ x∈l,x.1.length≤bs.length+n∧∀ c∈x.1,c=48∨c=49) (fun bs ts hc x h=>?_) (fun n bs ts _ hc x h=>?_) fun n bs ts x y _ _ _ h1 h2 hc z hz=>?_
 ·rw [List.mem_singleton.mp h]; exact ⟨Nat.le_refl _,hc⟩
 ·rw [List.mem_singleton.mp h]; exact ⟨Nat.le_add_right _ _,hc⟩
 ·have key: ∀ d,(d=48∨d=49)→∀ c∈bs++[d],c=48∨c=49:=fun d hd c h=>(List.mem_append.mp h).elim (hc c) fun q=>by rw [List.mem_singleton.mp q]; exact hd
  rcases List.mem_append.mp hz with q | q
  ·have:=h1 (key 48 (.inl rfl)) z q
   rw [List.length_append,List.length_singleton] at this
   exact ⟨by exact li [_,_,n] [([1],[2,0,3])] [1] [2,3,0] rfl this.1,this.2⟩
  ·have:=h2 (key 49 (.inr rfl)) z q
   rw [List.length_append,List.length_singleton] at this
   exact ⟨by exact li [_,_,n] [([1],[2,0,3])] [1] [2,3,0] rfl this.1,this.2⟩
noncomputable def uA (a b:List Nat):Prop:=∃ p r r',a=p++48::r∧b=p++49::r'
theorem la {b:Nat}: ∀ n bs ts,(dr b n bs ts).Pairwise fun x y=>uA x.1 y.1:=by
 refine cj (P:=fun _ _ _ l=>l.Pairwise fun x y=>uA x.1 y.1) (fun _ _=>List.pairwise_singleton _ _) (fun _ _ _ _=>List.pairwise_singleton _ _) fun n bs ts x y _ hx hy h1 h2=>?_
 refine List.pairwise_append.mpr ⟨h1,h2,fun u hu v hv=>?_⟩
 subst hx hy
 obtain ⟨r,hr⟩:=de _ _ _ u hu
 obtain ⟨r',hr'⟩:=de _ _ _ v hv
 exact ⟨bs,r,r',by rw [← hr,List.append_assoc]; rfl,by rw [← hr',List.append_assoc]; rfl⟩
theorem uA.not_pre {a b w:List Nat} (h:uA a b) (ha:a <+: w) (hb:b <+: w):False:=by
 obtain ⟨p,r,r',rfl,rfl⟩:=h
 obtain ⟨u,hu⟩:=ha
 obtain ⟨v,hv⟩:=hb
 rw [← hv,List.append_assoc,List.append_assoc] at hu
 have:=List.append_cancel_left hu
 cases this
theorem uA.ne {a b:List Nat} (h:uA a b):a≠b:=fun e=>h.not_pre (w:=b) (e▸List.prefix_refl _) (List.prefix_refl _)
theorem uA.lt {a b:List Nat} (h:uA a b):a < b:=by
 obtain ⟨p,r,r',rfl,rfl⟩:=h
 induction p with
 | nil=>exact List.cons_lt_cons_iff.mpr (.inl (by decide))
 | cons c p ih=>exact List.cons_lt_cons_iff.mpr (.inr ⟨rfl,ih⟩)
theorem lV {n:Int} {bs:List Nat} (h:bs <+: sgn n) (hl:bs.length < 8) (c:Nat):sAt n bs.length=c ↔ bs++[c] <+: sgn n:=by
 obtain ⟨r,hr⟩:=h
 cases r with
 | nil=>rw [List.append_nil] at hr; have:=(nq n).1; rw [← hr] at this; exact (l_z (lin [_] [(1,.a (.v 0) (.n 1),.n 8),(1,.n 8,.v 0)] 0 (.n 1) (.n 0) rfl hl (l_s this))).elim
 | cons d r=>
  have e:sAt n bs.length=d:=by rw [sAt,List.getD_eq_getElem?_getD,← hr,List.getElem?_append_right (Nat.le_refl _),Nat.sub_self]; rfl
  rw [e,← hr,List.prefix_append_right_inj,List.singleton_prefix_cons_iff]
  exact eq_comm
noncomputable def InP (bs:List Nat) (ts:Ts):Prop:=∀ t∈ts,bs <+: sgn t.1
theorem fG {bs:List Nat} {ts:Ts} (h:InP bs ts) (hl:bs.length < 8) (c:Nat):InP (bs++[c]) (half bs.length c ts):=fun t ht=>
 (lV (h t (List.mem_filter.mp ht).1) hl c).mp (of_decide_eq_true (List.mem_filter.mp ht).2)
noncomputable def at_ (bs:List Nat) (ts:Ts):Ts:=ts.filter fun t=>bs.isPrefixOf (sgn t.1)
theorem mU {bs:List Nat} {ts:Ts} (h:InP bs ts):at_ bs ts=ts:=List.filter_eq_self.mpr fun t ht=>List.isPrefixOf_iff_prefix.mpr (h t ht)
theorem sk {bs x:List Nat} {ts:Ts} (h:InP bs ts) (hl:bs.length < 8) {c:Nat} (hx:bs++[c] <+: x):at_ x (half bs.length c ts)=at_ x ts:=by
 rw [at_,at_,half,List.filter_filter]
 refine List.filter_congr fun t ht=>?_
 by_cases q:x <+: sgn t.1
 ·rw [List.isPrefixOf_iff_prefix.mpr q,decide_eq_true ((lV (h t ht) hl c).mpr (hx.trans q))]; rfl
 ·rw [Bool.eq_false_iff.mpr fun z=>q (List.isPrefixOf_iff_prefix.mp z)]; rfl
theorem rj {b:Nat}: ∀ n bs ts,bs.length+n=8→InP bs ts→∀ x∈dr b n bs ts,x.2=at_ x.1 ts:=by
 refine cj (P:=fun n bs ts l=>bs.length+n=8→InP bs ts→∀ x∈l,x.2=at_ x.1 ts) (fun bs ts _ hi x h=>?_) (fun n bs ts _ _ hi x h=>?_) fun n bs ts x y _ hx hy h1 h2 hl hi z hz=>?_
 ·rw [List.mem_singleton.mp h,mU hi]
 ·rw [List.mem_singleton.mp h,mU hi]
 ·have hl':bs.length < 8:=by exact lin [_,n] [(1,.a (.v 0) (.a (.v 1) (.n 1)),.n 8)] 1 (.a (.v 0) (.n 1)) (.n 8) rfl (l_e hl)
  subst hx hy
  rcases List.mem_append.mp hz with q | q
  ·rw [h1 (by rw [List.length_append,List.length_singleton]; exact l_a (lin [_,n] [(1,.a (.v 0) (.a (.v 1) (.n 1)),.n 8)] 1 (.a (.a (.v 0) (.n 1)) (.v 1)) (.n 8) rfl (l_e hl)) (lin [_,n] [(1,.n 8,.a (.v 0) (.a (.v 1) (.n 1)))] 1 (.n 8) (.a (.a (.v 0) (.n 1)) (.v 1)) rfl (l_s hl))) (fG hi hl' _) z q,sk hi hl' (de _ _ _ z q)]
  ·rw [h2 (by rw [List.length_append,List.length_singleton]; exact l_a (lin [_,n] [(1,.a (.v 0) (.a (.v 1) (.n 1)),.n 8)] 1 (.a (.a (.v 0) (.n 1)) (.v 1)) (.n 8) rfl (l_e hl)) (lin [_,n] [(1,.n 8,.a (.v 0) (.a (.v 1) (.n 1)))] 1 (.n 8) (.a (.a (.v 0) (.n 1)) (.v 1)) rfl (l_s hl))) (fG hi hl' _) z q,sk hi hl' (de _ _ _ z q)]
theorem rh {i:Nat} (h:i < 8) (ts:Ts):(half i 48 ts++half i 49 ts).Perm ts:=by
 have e:half i 49 ts=ts.filter fun t=>!decide (sAt t.1 i=48):=List.filter_congr fun t _=>by
  rcases vE t.1 h with q | q<;>rw [q]<;>rfl
 rw [e]; exact List.filter_append_perm _ _
theorem kZ {b:Nat}: ∀ n bs ts,bs.length+n=8→((dr b n bs ts).flatMap (·.2)).Perm ts:=by
 refine cj (P:=fun n bs ts l=>bs.length+n=8→(l.flatMap (·.2)).Perm ts) (fun bs ts _=>?_) (fun n bs ts _ _=>?_) fun n bs ts x y _ _ _ h1 h2 hl=>?_
 ·rw [List.flatMap_singleton]
 ·rw [List.flatMap_singleton]
 ·rw [List.flatMap_append]
  exact ((h1 (by rw [List.length_append,List.length_singleton]; exact l_a (lin [_,n] [(1,.a (.v 0) (.a (.v 1) (.n 1)),.n 8)] 1 (.a (.a (.v 0) (.n 1)) (.v 1)) (.n 8) rfl (l_e hl)) (lin [_,n] [(1,.n 8,.a (.v 0) (.a (.v 1) (.n 1)))] 1 (.n 8) (.a (.a (.v 0) (.n 1)) (.v 1)) rfl (l_s hl)))).append (h2 (by rw [List.length_append,List.length_singleton]; exact l_a (lin [_,n] [(1,.a (.v 0) (.a (.v 1) (.n 1)),.n 8)] 1 (.a (.a (.v 0) (.n 1)) (.v 1)) (.n 8) rfl (l_e hl)) (lin [_,n] [(1,.n 8,.a (.v 0) (.a (.v 1) (.n 1)))] 1 (.n 8) (.a (.a (.v 0) (.n 1)) (.v 1)) rfl (l_s hl))))).trans (rh (by exact lin [_,n] [(1,.a (.v 0) (.a (.v 1) (.n 1)),.n 8)] 1 (.a (.v 0) (.n 1)) (.n 8) rfl (l_e hl)) ts)
theorem df {b:Nat}: ∀ n bs ts,dr b n bs ts≠[]:=cj (P:=fun _ _ _ l=>l≠[]) (fun _ _ h=>nomatch h) (fun _ _ _ _ h=>nomatch h) fun n bs ts x y _ _ _ h1 _ h=>h1 (List.append_eq_nil_iff.mp h).1
theorem pC {b:Nat}: ∀ n bs ts (w:List Nat),bs <+: w→(∀ c∈w,c=48∨c=49)→(∀ x∈dr b n bs ts,x.1.length≤w.length)→∃ x∈dr b n bs ts,x.1 <+: w:=by
 refine cj (P:=fun n bs ts l=>∀ w:List Nat,bs <+: w→(∀ c∈w,c=48∨c=49)→(∀ x∈l,x.1.length≤w.length)→∃ x∈l,x.1 <+: w) (fun bs ts w h _ _=>⟨_,List.mem_singleton.mpr rfl,h⟩) (fun n bs ts _ w h _ _=>⟨_,List.mem_singleton.mpr rfl,h⟩) fun n bs ts x y _ hx hy h1 h2 w hw hc hl=>?_
 obtain ⟨r,rfl⟩:=hw
 cases r with
 | nil=>
  exfalso
  have: ∃ z,z∈x:=List.exists_mem_of_ne_nil x (hx▸df _ _ _)
  obtain ⟨z,hz⟩:=this
  have q1:=hl z (List.mem_append.mpr (.inl hz))
  subst hx
  have q2:=(de _ _ _ z hz).length_le
  rw [List.length_append,List.length_singleton] at q2
  rw [List.append_nil] at q1
  exact l_z (lin [_,_] [(1,.v 0,.v 1),(1,.a (.v 1) (.n 1),.v 0)] 0 (.n 1) (.n 0) rfl q1 q2)
 | cons d r=>
  rcases hc d (List.mem_append.mpr (.inr List.mem_cons_self)) with rfl | rfl
  ·obtain ⟨z,q1,q2⟩:=h1 (bs++48::r) ⟨r,by rw [List.append_assoc]; rfl⟩ hc fun x hx=>hl x (List.mem_append.mpr (.inl hx))
   exact ⟨z,List.mem_append.mpr (.inl q1),q2⟩
  ·obtain ⟨z,q1,q2⟩:=h2 (bs++49::r) ⟨r,by rw [List.append_assoc]; rfl⟩ hc fun x hx=>hl x (List.mem_append.mpr (.inr hx))
   exact ⟨z,List.mem_append.mpr (.inr q1),q2⟩
noncomputable def numOf (cs:List Nat):Nat:=cs.foldl (fun a c=>2*a+(c - 48)) 0
theorem wf: ∀ m:Nat,m < 256→numOf (wZ m 8).2=m:=by decide +kernel
theorem qM (n:Int):(numOf (sgn n):Int)=(171*n+37) % 256:=by
 have h0:0≤(171*n+37) % 256:=Int.emod_nonneg _ (by decide)
 have h1:(171*n+37) % 256 < 256:=Int.emod_lt_of_pos _ (by decide)
 have:=wf ((171*n+37) % 256).toNat (by lia)
 rw [Int.toNat_of_nonneg h0] at this
 rw [sgn,this,Int.toNat_of_nonneg h0]
theorem vk {a b:Int} (h0:0≤a) (h1:a≤255) (h2:0≤b) (h3:b≤255) (e:sgn a=sgn b):a=b:=by
 have x:=qM a
 have y:=qM b
 rw [e,y] at x
 omega
structure Ok (ts:Ts):Prop where
 up:Up ts
 low: ∀ t∈ts,0≤t.1∧t.1≤255
theorem Ok.half {ts:Ts} (h:Ok ts) (i c:Nat):Ok (half i c ts):=⟨h.up.filter _,fun t ht=>h.low t (List.mem_filter.mp ht).1⟩
theorem Ok.one {ts:Ts} (h:Ok ts) {bs:List Nat} (hl:bs.length=8) (hi:InP bs ts):ts.length≤1:=by
 have key: ∀ n:Int,bs <+: sgn n→bs=sgn n:=fun n q=>q.eq_of_length (by rw [hl,(nq n).1])
 match ts,h,hi with
 | [],_,_=>exact Nat.zero_le _
 | [_],_,_=>exact Nat.le_refl _
 | a::b::_,h,hi=>
  have ha:=h.low a List.mem_cons_self
  have hb:=h.low b (List.mem_cons_of_mem _ List.mem_cons_self)
  have e:=vk ha.1 ha.2 hb.1 hb.2 ((key a.1 (hi a List.mem_cons_self)).symm.trans (key b.1 (hi b (List.mem_cons_of_mem _ List.mem_cons_self))))
  have:=(List.pairwise_cons.mp h.up).1 b List.mem_cons_self
  lia
theorem nZ {b:Nat} (hb:1≤b): ∀ n bs ts,bs.length+n=8→InP bs ts→Ok ts→∀ x∈dr b n bs ts,x.2.length≤b:=by
 refine cj (P:=fun n bs ts l=>bs.length+n=8→InP bs ts→Ok ts→∀ x∈l,x.2.length≤b) (fun bs ts hl hi ho x h=>?_) (fun n bs ts hlen _ hi ho x h=>?_) fun n bs ts x y _ _ _ h1 h2 hl hi ho z hz=>?_
 ·rw [List.mem_singleton.mp h]; exact Nat.le_trans (ho.one hl hi) hb
 ·rw [List.mem_singleton.mp h]; exact hlen
 ·have hl':bs.length < 8:=by exact lin [_,n] [(1,.a (.v 0) (.a (.v 1) (.n 1)),.n 8)] 1 (.a (.v 0) (.n 1)) (.n 8) rfl (l_e hl)
  rcases List.mem_append.mp hz with q | q
  ·exact h1 (by rw [List.length_append,List.length_singleton]; exact l_a (lin [_,n] [(1,.a (.v 0) (.a (.v 1) (.n 1)),.n 8)] 1 (.a (.a (.v 0) (.n 1)) (.v 1)) (.n 8) rfl (l_e hl)) (lin [_,n] [(1,.n 8,.a (.v 0) (.a (.v 1) (.n 1)))] 1 (.n 8) (.a (.a (.v 0) (.n 1)) (.v 1)) rfl (l_s hl))) (fG hi hl' _) (ho.half _ _) z q
  ·exact h2 (by rw [List.length_append,List.length_singleton]; exact l_a (lin [_,n] [(1,.a (.v 0) (.a (.v 1) (.n 1)),.n 8)] 1 (.a (.a (.v 0) (.n 1)) (.v 1)) (.n 8) rfl (l_e hl)) (lin [_,n] [(1,.n 8,.a (.v 0) (.a (.v 1) (.n 1)))] 1 (.n 8) (.a (.a (.v 0) (.n 1)) (.v 1)) rfl (l_s hl))) (fG hi hl' _) (ho.half _ _) z q
theorem pB {b:Nat}: ∀ n bs ts,bs.length+n=8→((dr b n bs ts).map fun x=>2 ^ (8 - x.1.length)).sum=2 ^ n:=by
 refine cj (P:=fun n bs ts l=>bs.length+n=8→(l.map fun x=>2 ^ (8 - x.1.length)).sum=2 ^ n) (fun bs ts hl=>?_) (fun n bs ts _ hl=>?_) fun n bs ts x y _ _ _ h1 h2 hl=>?_
 ·rw [List.map_singleton,List.sum_singleton,show 8 - bs.length=0 by exact l_a (lin [_,_] [(1,.n 8,.a (.v 1) (.n 0)),(1,.a (.v 0) (.v 1),.n 8)] 1 (.v 0) (.n 0) rfl (l_s hl) (l_d (lin [_] [(1,.a (.v 0) (.n 0),.n 8)] 1 (.v 0) (.n 8) rfl (l_e hl)))) (li [_] [] [] [1] rfl )]
 ·rw [List.map_singleton,List.sum_singleton,show 8 - bs.length=n+1 by exact l_a (lin [_,n,_] [(1,.n 8,.a (.v 2) (.a (.v 1) (.n 1))),(1,.a (.v 0) (.v 2),.n 8)] 1 (.v 0) (.a (.v 1) (.n 1)) rfl (l_s hl) (l_d (lin [_,n] [(1,.a (.v 0) (.a (.v 1) (.n 1)),.n 8)] 1 (.v 0) (.n 8) rfl (l_e hl)))) (lin [n,_,_] [(1,.a (.v 2) (.a (.v 0) (.n 1)),.n 8),(1,.n 8,.a (.v 1) (.v 2))] 1 (.a (.v 0) (.n 1)) (.v 1) rfl (l_e hl) (l_g _ _))]
 ·rw [List.map_append,List.sum_append_nat,h1 (by rw [List.length_append,List.length_singleton]; exact l_a (lin [_,n] [(1,.a (.v 0) (.a (.v 1) (.n 1)),.n 8)] 1 (.a (.a (.v 0) (.n 1)) (.v 1)) (.n 8) rfl (l_e hl)) (lin [_,n] [(1,.n 8,.a (.v 0) (.a (.v 1) (.n 1)))] 1 (.n 8) (.a (.a (.v 0) (.n 1)) (.v 1)) rfl (l_s hl))),h2 (by rw [List.length_append,List.length_singleton]; exact l_a (lin [_,n] [(1,.a (.v 0) (.a (.v 1) (.n 1)),.n 8)] 1 (.a (.a (.v 0) (.n 1)) (.v 1)) (.n 8) rfl (l_e hl)) (lin [_,n] [(1,.n 8,.a (.v 0) (.a (.v 1) (.n 1)))] 1 (.n 8) (.a (.a (.v 0) (.n 1)) (.v 1)) rfl (l_s hl))),Nat.pow_succ]; lia
noncomputable def ae (b:Nat) (ts:Ts):List Rm:=dr b 8 [] ts
theorem ig (ts:Ts):InP [] ts:=fun _ _=>List.nil_prefix
noncomputable def bZ (b:Nat) (w:List Rm):List Rm:=w.flatMap fun x=>dr b (8 - x.1.length) x.1 x.2
noncomputable def fu (b:Nat) (w:List Rm):Nat:=(w.map fun x=>2*(dr b (8 - x.1.length) x.1 x.2).length - 1).sum
noncomputable def WOk (x:Rm):Prop:=x.1.length≤8∧InP x.1 x.2∧Ok x.2
theorem WOk.split {x:Rm} {b:Nat} (hb:1≤b) (h:WOk x) (hx: ¬ x.2.length≤b):x.1.length < 8∧WOk (x.1++[48],half x.1.length 48 x.2)∧WOk (x.1++[49],half x.1.length 49 x.2)∧
  dr b (8 - x.1.length) x.1 x.2=dr b (8 - (x.1++[48]).length) (x.1++[48]) (half x.1.length 48 x.2)++dr b (8 - (x.1++[49]).length) (x.1++[49]) (half x.1.length 49 x.2):=by
 obtain ⟨h1,h2,h3⟩:=h
 have hl:x.1.length < 8:=Nat.lt_of_le_of_ne h1 fun e=>hx (Nat.le_trans (h3.one e h2) hb)
 refine ⟨hl,⟨by simp; exact lin [_] [(1,.a (.v 0) (.n 1),.n 8)] 1 (.v 0) (.n 7) rfl hl,fG h2 hl _,h3.half _ _⟩,⟨by simp; exact lin [_] [(1,.a (.v 0) (.n 1),.n 8)] 1 (.v 0) (.n 7) rfl hl,fG h2 hl _,h3.half _ _⟩,?_⟩
 rw [List.length_append,List.length_singleton,List.length_append,List.length_singleton,← ii hx,show 8 - (x.1.length+1)+1=8 - x.1.length by exact l_a (lin [_,_,_] [(1,.a (.v 0) (.a (.v 2) (.n 1)),.n 8),(1,.n 8,.a (.v 1) (.v 2))] 1 (.a (.v 0) (.n 1)) (.v 1) rfl (l_d (hl)) (l_g _ _)) (lin [_,_,_] [(1,.n 8,.a (.v 1) (.a (.v 2) (.n 1))),(1,.a (.v 0) (.v 2),.n 8)] 1 (.v 0) (.a (.v 1) (.n 1)) rfl (l_g _ _) (l_d (h1)))]
theorem jb {b:Nat} {w:List Rm} {x:Rm} (h:x.2.length≤b):fu b (w++[x])=fu b w+1∧bZ b (w++[x])=bZ b w++[x]:=by
 constructor
 ·rw [fu,List.map_append,List.sum_append_nat,List.map_singleton,List.sum_singleton,ct h]; rfl
 ·rw [bZ,List.flatMap_append,List.flatMap_singleton,ct h]; rfl
theorem jc {b:Nat} (hb:1≤b) {w:List Rm} {x:Rm} (hx:WOk x) (h: ¬ x.2.length≤b):fu b (w++[x])=fu b (w++[(x.1++[48],half x.1.length 48 x.2),(x.1++[49],half x.1.length 49 x.2)])+1∧
  bZ b (w++[x])=bZ b (w++[(x.1++[48],half x.1.length 48 x.2),(x.1++[49],half x.1.length 49 x.2)]):=by
 obtain ⟨hl,h1,h2,e⟩:=hx.split hb h
 have ne: ∀ n bs ts,1≤(dr b n bs ts).length:=fun n bs ts=>List.length_pos_iff.mpr (df n bs ts)
 constructor
 ·rw [fu,fu,List.map_append,List.map_append,List.sum_append_nat,List.sum_append_nat,List.map_singleton,List.sum_singleton,List.map_cons,List.sum_cons,List.map_singleton,List.sum_singleton,e,List.length_append]
  have:=ne (8 - (x.1++[48]).length) (x.1++[48]) (half x.1.length 48 x.2)
  have:=ne (8 - (x.1++[49]).length) (x.1++[49]) (half x.1.length 49 x.2)
  simp only at*
  exact l_a (lin [_,_,_,_,_,_] [(1,.a (.v 1) (.n 1),.m 2 (.a (.v 4) (.v 5))),(1,.m 2 (.v 4),.a (.v 2) (.n 1)),(1,.m 2 (.v 5),.a (.v 3) (.n 1))] 1 (.a (.v 0) (.v 1)) (.a (.a (.v 0) (.a (.v 2) (.v 3))) (.n 1)) rfl (l_d (lin [_,_] [(2,.n 1,.v 1)] 1 (.n 1) (.m 2 (.a (.v 0) (.v 1))) rfl this)) (l_g _ _) (l_g _ _)) (lin [_,_,_,_,_,_] [(1,.m 2 (.a (.v 4) (.v 5)),.a (.v 3) (.n 1)),(1,.a (.v 1) (.n 1),.m 2 (.v 4)),(1,.a (.v 2) (.n 1),.m 2 (.v 5))] 1 (.a (.a (.v 0) (.a (.v 1) (.v 2))) (.n 1)) (.a (.v 0) (.v 3)) rfl (l_g _ _) (l_d (lin [_] [(2,.n 1,.v 0)] 1 (.n 1) (.m 2 (.v 0)) rfl (by assumption))) (l_d (lin [_] [(2,.n 1,.v 0)] 1 (.n 1) (.m 2 (.v 0)) rfl this)))
 ·rw [bZ,bZ,List.flatMap_append,List.flatMap_append,List.flatMap_singleton,List.flatMap_cons,List.flatMap_singleton,e]
end
noncomputable section
theorem cp (m:Nat):ar (m:Int)=(Nat.toDigits 10 m).map Char.toNat:=by
 show (Nat.repr m).toList.map Char.toNat=_
 rw [Nat.toList_repr]
theorem ec (m:Nat):ar (Int.negSucc m)=45::ar ((m+1:Nat):Int):=by
 rw [cp]
 show ("-" ++Nat.repr (m+1)).toList.map Char.toNat=_
 rw [String.toList_append,Nat.toList_repr,List.map_append]; rfl
theorem gF (m:Nat):BW (ar (m:Int)):=fun c hc=>by
 rw [cp] at hc
 obtain ⟨ch,h1,rfl⟩:=List.mem_map.mp hc
 have:=Nat.isDigit_of_mem_toDigits (by decide) (by decide) h1
 simp [Char.isDigit,UInt32.le_iff_toNat_le] at this
 exact this
theorem rL (m:Nat):ar (m:Int)≠[]:=by
 rw [cp]
 intro e
 have:=Nat.length_toDigits_pos (b:=10) (n:=m)
 rw [List.map_eq_nil_iff.mp e] at this
 exact absurd this (by decide)
theorem rJ (cs:List Nat) (c:Nat):xx (cs++[c])=xx cs*10+(c - 48):=by rw [xx,List.foldl_append]; rfl
theorem fb: ∀ d:Nat,d < 10→(Nat.digitChar d).toNat=48+d:=by decide
theorem mK (m:Nat):xx (ar (m:Int))=m:=by
 induction m using Nat.strongRecOn with
 | _ m ih=>
  rw [cp]
  by_cases h:m < 10
  ·rw [Nat.toDigits_of_lt_base h,List.map_singleton,fb m h]
   show 0*10+(48+m - 48)=m
   exact l_a (lin [_,m] [(1,.a (.v 0) (.n 48),.a (.n 48) (.v 1))] 1 (.a (.m 0 (.n 10)) (.v 0)) (.v 1) rfl (l_d (lin [m] [] 1 (.n 48) (.a (.n 48) (.v 0)) rfl ))) (lin [m,_] [(1,.a (.n 48) (.v 0),.a (.v 1) (.n 48))] 1 (.v 0) (.a (.m 0 (.n 10)) (.v 1)) rfl (l_g _ _))
  ·have e:m=10*(m / 10)+m % 10:=(Nat.div_add_mod m 10).symm
   have hd:0 < m / 10:=by lia
   have hm:m % 10 < 10:=Nat.mod_lt _ (by decide)
   have:=ih (m / 10) (by exact lin [_,m,_] [(9,.n 10,.v 1),(1,.a (.m 10 (.v 0)) (.v 2),.v 1)] 10 (.a (.v 0) (.n 1)) (.v 1) rfl (l_t h) (l_s e))
   rw [cp] at this
   rw [e,← Nat.toDigits_append_toDigits (by decide) hd hm,List.map_append,Nat.toDigits_of_lt_base hm,List.map_singleton,rJ,this,fb _ hm]
   lia
theorem cO {m k:Nat} (hk:0 < k) (h:m < 10 ^ k):(ar (m:Int)).length≤k:=by
 rw [cp,List.length_map]
 exact (Nat.length_toDigits_le_iff (by decide) hk).mpr h
theorem mL (i:Int): ∀ c∈ar i,c=45∨(48≤c∧c≤57):=by
 cases i with
 | ofNat m=>exact fun c h=>.inr (gF m c h)
 | negSucc m=>
  intro c h
  rw [ec] at h
  rcases List.mem_cons.mp h with h | h
  ·exact .inl h
  ·exact .inr (gF (m+1) c h)
noncomputable def eg (t:Int×Int):List Nat:=ar t.1++61::ar t.2
noncomputable def lI (x:Rm):List Nat:=x.1++58::x.2.flatMap fun t=>32::eg t
noncomputable def cF (b:Nat):List Nat:=[98,111,117,110,100,32]++ar (b:Int)
noncomputable def eB (b:Nat) (ts:Ts):List (List Nat):=cF b::(ae b ts).map lI
noncomputable def iQ (b:Nat) (ts:Ts):List Nat:=bf [10] (eB b ts)
theorem hG {i:Int} {c d:Nat} (h:c∈ar i) (hd:d=10∨d=32∨d=61∨d=58):d≠c:=fun e=>by
 have:=mL i c h
 lia
theorem ku {t:Int×Int} {d:Nat} (hd:d=10∨d=32∨d=58):d ∉ eg t:=fun h=>by
 rcases List.mem_append.mp h with h | h
 ·exact hG h (by lia) rfl
 ·rcases List.mem_cons.mp h with h | h
  ·lia
  ·exact hG h (by lia) rfl
theorem sV {x:Rm} (hx: ∀ c∈x.1,c=48∨c=49):10 ∉ lI x:=fun h=>by
 rcases List.mem_append.mp h with h | h
 ·have:=hx 10 h; exact this.elim (fun q=>l_z (lin [] [(1,.n 48,.n 10)] 0 (.n 1) (.n 0) rfl (l_s q))) (fun q=>l_z (lin [] [(1,.n 49,.n 10)] 0 (.n 1) (.n 0) rfl (l_s q)))
 ·rcases List.mem_cons.mp h with h | h
  ·exact l_z (lin [] [(1,.n 58,.n 10)] 0 (.n 1) (.n 0) rfl (l_s h))
  ·obtain ⟨t,_,h⟩:=List.mem_flatMap.mp h
   rcases List.mem_cons.mp h with h | h
   ·exact l_z (lin [] [(1,.n 32,.n 10)] 0 (.n 1) (.n 0) rfl (l_s h))
   ·exact ku (.inl rfl) h
theorem pM (b:Nat):10 ∉ cF b:=fun h=>by
 rcases List.mem_append.mp h with h | h
 ·revert h; decide
 ·exact hG h (.inl rfl) rfl
theorem qy (b:Nat) (ts:Ts): ∀ r∈eB b ts,10 ∉ r:=fun r h=>by
 rcases List.mem_cons.mp h with rfl | h
 ·exact pM b
 ·obtain ⟨x,h1,rfl⟩:=List.mem_map.mp h
  exact sV (lb _ _ _ (fun c h=>by cases h) x h1).2
noncomputable def mY (x:Rm):List (List Nat):=(x.1++[58])::x.2.map eg
theorem qz (x:Rm):bf [32] (mY x)=lI x:=by
 rw [mY,bf,lI,List.flatMap_map,List.append_assoc]; rfl
theorem oI {x:Rm} (hx: ∀ c∈x.1,c=48∨c=49): ∀ r∈mY x,32 ∉ r:=fun r h q=>by
 rcases List.mem_cons.mp h with rfl | h
 ·rcases List.mem_append.mp q with q | q
  ·have:=hx 32 q; exact this.elim (fun q=>l_z (lin [] [(1,.n 48,.n 32)] 0 (.n 1) (.n 0) rfl (l_s q))) (fun q=>l_z (lin [] [(1,.n 49,.n 32)] 0 (.n 1) (.n 0) rfl (l_s q)))
  ·rw [List.mem_singleton] at q; exact l_z (lin [] [(1,.n 58,.n 32)] 0 (.n 1) (.n 0) rfl (l_s q))
 ·obtain ⟨t,_,rfl⟩:=List.mem_map.mp h
  exact ku (.inr (.inl rfl)) q
theorem oJ (t:Int×Int):bf [61] [ar t.1,ar t.2]=eg t:=by simp [bf,eg]
theorem pg (t:Int×Int): ∀ r∈[ar t.1,ar t.2],61 ∉ r:=fun r h q=>by
 rcases List.mem_cons.mp h with rfl | h
 ·exact hG q (by lia) rfl
 ·rw [List.mem_singleton.mp h] at q
  exact hG q (by lia) rfl
theorem qb {ts us:Ts} (h1:Up ts) (h2:Up us) (p:ts.Perm us):ts=us:=
 p.eq_of_pairwise (le:=fun a b=>a.1 < b.1) (fun a b _ _ q1 q2=>absurd (Int.lt_trans q1 q2) (Int.lt_irrefl _)) h1 h2
theorem ww {b:Nat} {ts:Ts} (h:Up ts):((ae b ts).flatMap (·.2)).Pairwise fun x y=>x.1≠y.1:=
 (kZ (b:=b) 8 [] ts rfl).symm.pairwise (h.imp fun q e=>by rw [e] at q; exact Int.lt_irrefl _ q) (fun h e=>h e.symm)
theorem pA {b:Nat} {ts:Ts} (h:Up ts):eG [] ((ae b ts).flatMap (·.2))=ts:=by
 obtain ⟨h1,h2⟩:=wo ((ae b ts).flatMap (·.2)) [] List.Pairwise.nil (fun _ _ t ht=>by cases ht) (ww h)
 exact qb h1 h (h2.trans (kZ 8 [] ts rfl))
end
noncomputable section
open PySem
noncomputable def iA:Ss:=
 (.cons (.ite (.or (.cons (.not (.isi (.var "name") "int")) (.cons (.isi (.var "name") "bool") (.cons (.not (.cmp2 .LtE .LtE (.int 0) (.var "name") (.int 255))) .nil)))) (.cons (.raise "BadName")
 .nil) .nil)
 .nil)
noncomputable def sf:Ss:=
 (.cons (.ex (.call "need_name" (.cons (.var "name") .nil)))
 (.cons (.ret (.bin .Mod (.bin .Add (.bin .Mult (.int 171) (.var "name")) (.int 37)) (.int 256)))
 .nil))
noncomputable def se:Ss:=
 (.cons (.asg "number" (.call "mixed" (.cons (.var "name") .nil)))
 (.cons (.asg "text" (.str []))
 (.cons (.for_ "place" (.blt .range (.cons (.glo "SIGNS") .nil)) (.cons (.asg "text" (.bin .Add (.blt .str (.cons (.bin .Mod (.var "number") (.int 2)) .nil)) (.var "text")))
 (.cons (.asg "number" (.bin .FloorDiv (.var "number") (.int 2)))
 .nil)))
 (.cons (.ret (.var "text"))
 .nil))))
noncomputable def dL:Ss:=
 (.cons (.ret (.compIf (.var "thing") "thing" (.var "things") (.cmp .NotEq (.idx (.var "thing") (.int 0)) (.var "name"))))
 .nil)
noncomputable def jo:Ss:=
 (.cons (.for_ "thing" (.var "things") (.cons (.ite (.cmp .Eq (.idx (.var "thing") (.int 0)) (.var "name")) (.cons (.ret (.idx (.var "thing") (.int 1)))
 .nil) .nil)
 .nil))
 (.cons (.ret .none)
 .nil))
noncomputable def ki:Ss:=
 (.cons (.asg "bits" (.idx (.var "room") (.int 0)))
 (.cons (.asg "at" (.blt .len (.cons (.var "bits") .nil)))
 (.cons (.asg "first" (.compIf (.var "thing") "thing" (.idx (.var "room") (.int 1)) (.cmp .Eq (.idx (.call "signs" (.cons (.idx (.var "thing") (.int 0)) .nil)) (.var "at")) (.str [48]))))
 (.cons (.asg "last" (.compIf (.var "thing") "thing" (.idx (.var "room") (.int 1)) (.cmp .Eq (.idx (.call "signs" (.cons (.idx (.var "thing") (.int 0)) .nil)) (.var "at")) (.str [49]))))
 (.cons (.ret (.tup (.cons (.tup (.cons (.bin .Add (.var "bits") (.str [48])) (.cons (.var "first") .nil))) (.cons (.tup (.cons (.bin .Add (.var "bits") (.str [49])) (.cons (.var "last") .nil))) .nil))))
 .nil)))))
noncomputable def cu:Ss:=
 (.cons (.asg "waiting" (.list (.cons (.tup (.cons (.str []) (.cons (.blt .list (.cons (.var "things") .nil)) .nil))) .nil)))
 (.cons (.asg "found" .dict)
 (.cons (.whl (.cmp .Gt (.blt .len (.cons (.var "waiting") .nil)) (.int 0)) (.cons (.asg "room" (.mth .pop (.var "waiting") .nil))
 (.cons (.ite (.cmp .LtE (.blt .len (.cons (.idx (.var "room") (.int 1)) .nil)) (.var "bound")) (.cons (.asgSub (.var "found") (.idx (.var "room") (.int 0)) (.idx (.var "room") (.int 1)))
 .nil) (.cons (.asg "both" (.call "parted" (.cons (.var "room") .nil)))
 (.cons (.ex (.mth .append (.var "waiting") (.cons (.idx (.var "both") (.int 0)) .nil)))
 (.cons (.ex (.mth .append (.var "waiting") (.cons (.idx (.var "both") (.int 1)) .nil)))
 .nil))))
 .nil)))
 (.cons (.ret (.compX (.tup (.cons (.var "bits") (.cons (.idx (.var "found") (.var "bits")) .nil))) "bits" (.blt .sorted (.cons (.blt .list (.cons (.var "found") .nil)) .nil))))
 .nil))))
noncomputable def fW:Ss:=
 (.cons (.ite (.or (.cons (.not (.isi (.var "bound") "int")) (.cons (.isi (.var "bound") "bool") (.cons (.not (.cmp2 .LtE .LtE (.int 1) (.var "bound") (.int 64))) .nil)))) (.cons (.raise "BadBound")
 .nil) .nil)
 (.cons (.asgAttr (.var "self") "bound" (.var "bound"))
 (.cons (.asgAttr (.var "self") "held" (.list .nil))
 .nil)))
noncomputable def iJ:Ss:=
 (.cons (.ex (.call "need_name" (.cons (.var "name") .nil)))
 (.cons (.asg "before" (.call "value_in" (.cons (.attr (.var "self") "held") (.cons (.var "name") .nil))))
 (.cons (.asgAttr (.var "self") "held" (.call "with_thing" (.cons (.attr (.var "self") "held") (.cons (.var "name") (.cons (.var "value") .nil)))))
 (.cons (.ret (.var "before"))
 .nil))))
noncomputable def dN:Ss:=
 (.cons (.ex (.call "need_name" (.cons (.var "name") .nil)))
 (.cons (.asg "before" (.call "value_in" (.cons (.attr (.var "self") "held") (.cons (.var "name") .nil))))
 (.cons (.ite (.cmp .Is (.var "before") .none) (.cons (.raise "NoThing")
 .nil) .nil)
 (.cons (.asgAttr (.var "self") "held" (.call "without_thing" (.cons (.attr (.var "self") "held") (.cons (.var "name") .nil))))
 (.cons (.ret (.var "before"))
 .nil)))))
noncomputable def cI:Ss:=
 (.cons (.ret (.blt .list (.cons (.attr (.var "self") "held") .nil)))
 .nil)
noncomputable def dh:Ss:=
 (.cons (.ret (.call "rooms_for" (.cons (.attr (.var "self") "held") (.cons (.attr (.var "self") "bound") .nil))))
 .nil)
section
variable {C:Cx} {k:Nat} {H:List HO}
theorem er {a b:Int} (h:a≤b):Cmp H .LtE (.int a) (.int b) true:=by
 have:=Cmp.le (H:=H) a b
 rwa [decide_eq_true h] at this
theorem bd {a b:Int}:Cmp H .Eq (.int a) (.int b) (eqB (.int a) (.int b)):=.eq (.self _) (.self _) rfl rfl
theorem ry {c:String} (hz:ak H):c=c∧ak H∧H.take H.length=H:=⟨rfl,hz,List.take_length⟩
theorem zq (F:br C "need_name" ["name"] iA) {n:Int} (h0:0≤n) (h1:n≤255):Calls C (k+1) "need_name" [.int n] H (.ok .none) H:=
 az F rfl (aY (tE (pV (mE (ou (aa rfl) (.int _) rfl)) (pV (ou (aa rfl) (.int _) rfl) (pV (mE (im ac (aa rfl) (er h0) ac (er h1))) nJ)))) (aZ ⟨rfl,trivial,List.take_length⟩))
noncomputable def lJ (n:Int):Int:=(171*n+37) % 256
theorem wF (F:br C "mixed" ["name"] sf) {n:Int} (Gn:Calls C k "need_name" [.int n] H (.ok .none) H):Calls C (k+1) "mixed" [.int n] H (.ok (.int (lJ n))) H:=
 az F rfl (fq (ah (aE (aa rfl)) Gn) (aM (af (af (af ac (aa rfl) (.mul (.inl (by decide)))) ac (.add _ _)) ac (.mod (by decide))) (aB rfl trivial)))
noncomputable def sgR (m:Int):Nat→Int×List Nat
 | 0=>(m,[])
 | i+1=>((sgR m i).1 / 2,bit (decide ((sgR m i).1 % 2=1))::(sgR m i).2)
theorem qv (m:Int): ∀ i,(sgR m i).2.length=i
 | 0=>rfl
 | i+1=>by rw [sgR,List.length_cons,qv m i]
theorem DA (x:Int):x % 2=b01 (decide (x % 2=1)):=by
 rcases Int.emod_two_eq x with h | h<;>rw [h]<;>rfl
theorem xQ: ∀ m:Nat,m < 256→(sgR m 8).2=(wZ m 8).2:=by decide +kernel
theorem vm (n:Int):(sgR (lJ n) 8).2=sgn n:=by
 have h0:0≤lJ n:=Int.emod_nonneg _ (by decide)
 have h1:lJ n < 256:=Int.emod_lt_of_pos _ (by decide)
 have:=xQ (lJ n).toNat (by lia)
 rw [Int.toNat_of_nonneg h0] at this
 exact this
theorem BL (F:br C "signs" ["name"] se) (hg:C.glo "SIGNS" =some (.int 8)) {n:Int} (Gm:Calls C k "mixed" [.int n] H (.ok (.int (lJ n))) H):Calls C (k+1) "signs" [.int n] H (.ok (.str (sgn n))) H:=by
 refine az F rfl (aw (ah (aE (aa rfl)) Gm) (aw aA ?_))
 refine eh (fun i st=>st.H=H∧st.s "number" =some (.int (sgR (lJ n) i).1)∧st.s "text" =some (.str (sgR (lJ n) i).2)) (aH (aE (zm hg)) (.range1 _)) (dF (n:=8) (by decide)) ⟨rfl,rfl,rfl⟩ ?_ fun st e=>aM (cf (aa e.2.2) (congrArg V.str (vm n))) (aB e.1 trivial)
 rintro i w ⟨s,H'⟩ hw ⟨e1,e2,e3⟩ Q' hQ
 have e1:H'=H:=e1
 subst e1
 obtain ⟨hi,rfl⟩:=rm hw
 have hl:=qv (lJ n) i
 have h2:=DA (sgR (lJ n) i).1
 have hd:ar ((sgR (lJ n) i).1 % 2)=[bit (decide ((sgR (lJ n) i).1 % 2=1))]:=(congrArg ar h2).trans (pG _)
 have hs:((sgR (lJ n) i).1 % 2).natAbs < 10 ^ 100:=h2▸pO _
 have e4:some (V.str (ar ((sgR (lJ n) i).1 % 2)++(sgR (lJ n) i).2))=some (V.str (sgR (lJ n) (i+1)).2):=by rw [hd]; rfl
 refine aw (af (aH (aE (af (aa (by exact e2)) ac (.mod (by decide)))) (.str hs)) (aa (by exact e3)) (.cat ?_)) (aw (af (aa (by exact e2)) ac (.div (by decide) (by decide))) (aZ (hQ _ (by exact ⟨rfl,rfl,e4⟩)).1))
 rw [hd,hl,List.length_singleton]; exact lin [i] [(1,.a (.v 0) (.n 1),.n 8)] 1 (.a (.n 1) (.v 0)) (.n 16000000) rfl hi
inductive oD (H:List HO):V→Prop
 | kind {v:V} {t:String}:sD H v t→sy t "int" =false→oD H v
 | bool (b:Bool):oD H (.bool b)
 | low {n:Int}:n < 0→oD H (.int n)
 | high {n:Int}:255 < n→oD H (.int n)
noncomputable def ft (ts:Ts) (n:Int):V:=((ts.find? fun t=>decide (t.1=n)).map fun t=>V.int t.2).getD .none
theorem nP (ts:Ts) (n:Int) (m:Nat):low m (ft ts n):=by
 unfold ft
 cases ts.find? fun t=>decide (t.1=n)<;>trivial
theorem wt {ts:Ts} {i:Nat} {v:V} (h:(ts.map pr)[i]?= some v): ∃ hi:i < ts.length,v=pr ts[i]:=by
 rw [List.getElem?_map] at h
 obtain ⟨t,h1,rfl⟩:=Option.map_eq_some_iff.mp h
 obtain ⟨h2,rfl⟩:=List.getElem?_eq_some_iff.mp h1
 exact ⟨h2,rfl⟩
theorem uF {ts:Ts} {n:Int} {i:Nat} (hi:i < ts.length) (h:ts[i].1=n) (hb: ∀ t∈ts.take i,t.1≠n):ft ts n=.int ts[i].2:=by
 have:ts.find? (fun t=>decide (t.1=n))=some ts[i]:=List.find?_eq_some_iff_getElem.mpr ⟨decide_eq_true h,i,hi,rfl,fun j hj=>by
  rw [decide_eq_false (hb _ (List.mem_take_iff_getElem.mpr ⟨j,by exact li [j,_,i] [([1,0],[3]),([3],[2])] [1,0] [2] rfl hj (l_m (li [i,_] [([1,0],[2])] [1] [2] rfl hi)),rfl⟩))]; rfl⟩
 rw [ft,this]; rfl
theorem qa {ts:Ts} {n:Int} (hb: ∀ t∈ts,t.1≠n):ft ts n=.none:=by
 rw [ft,List.find?_eq_none.mpr fun t ht=>by rw [decide_eq_false (hb t ht)]; exact Bool.false_ne_true]; rfl
theorem kh (F:br C "value_in" ["things", "name"] jo) (ts:Ts) (n:Int):Calls C (k+1) "value_in" [.lst (ts.map pr),.int n] H (.ok (ft ts n)) H:=by
 refine az F rfl (yi (fun i st=>st.H=H∧st.s "name" =some (.int n)∧∀ t∈ts.take i,t.1≠n) (fun u st=>u=ft ts n∧st.H=H) (aa rfl) (.lst _) ⟨rfl,rfl,fun t h=>by rw [List.take_zero] at h; cases h⟩ ?_ (fun u st e=>?_) fun st e=>?_)
 ·rintro i w ⟨s,H'⟩ hw ⟨e1,e2,e3⟩ Q' hQ hR
  have e1:H'=H:=e1
  subst e1
  obtain ⟨hi,rfl⟩:=wt hw
  by_cases q:ts[i].1=n
  ·exact cV (ai (ag (aa rfl) ac bj) (aa (by exact e2)) bd (decide_eq_true q)) (aM (ag (aa rfl) ac gx) (bS (hR _ _ ⟨(uF hi q e3).symm,rfl⟩)))
  ·have key: ∀ t∈ts.take (i+1),t.1≠n:=fun t ht=>by
    rw [List.take_succ_eq_append_getElem hi] at ht
    rcases List.mem_append.mp ht with ht | ht
    ·exact e3 t ht
    ·rw [List.mem_singleton.mp ht]; exact q
   exact aY (ai (ag (aa rfl) ac bj) (aa (by exact e2)) bd (decide_eq_false q)) (aZ (hQ _ (by exact ⟨rfl,e2,key⟩)).1)
 ·obtain ⟨rfl,e⟩:=e
  exact aB e (nP _ _ _)
 ·refine aM (cf mF (qa fun t ht=>e.2.2 t ?_).symm) (aB e.1 (nP _ _ _))
  rw [List.length_map,List.take_length]; exact ht
noncomputable def woT (ts:Ts) (n:Int):Ts:=ts.filter fun t=>!decide (t.1=n)
theorem lw (F:br C "without_thing" ["things", "name"] dL) (ts:Ts) (n:Int):Calls C (k+1) "without_thing" [.lst (ts.map pr),.int n] H (.ok (.lst ((woT ts n).map pr))) H:=
 az F rfl (aM (aW (g:=pr) (q:=pr) (p:=fun t=>!decide (t.1=n)) (rs:=ts) (aa rfl) (.lst _) (fun t h=>ai (ag (aa rfl) ac bj) (aa rfl) cP rfl) (fun _ _ _=>aa rfl) .lst) (aB rfl (bK _ _)))
noncomputable def stA (b:Int) (ts:Ts):HO:=.attrs [("bound",.int b),("held",.lst (ts.map pr))]
structure bT (H:List HO) (i j:Nat) (b:Int) (ts:Ts):Prop where
 obj:H[i]?= some (.obj j)
 att:H[j]?= some (stA b ts)
theorem bT.at {i j:Nat} {b:Int} {ts:Ts} (h:bT H i j b ts):fn H (.loc i) j [("bound",.int b),("held",.lst (ts.map pr))]:=.mk h.obj h.att
theorem mq {i j:Nat} {fs fs':List (String×V)} (h1:H[i]?= some (.obj j)) (h2:H[j]?= some (.attrs fs)):(H.set j (.attrs fs'))[i]?= some (.obj j)∧(H.set j (.attrs fs'))[j]?= some (.attrs fs'):=by
 have ne:j≠i:=fun e=>by subst e; rw [h1] at h2; cases h2
 exact ⟨by rw [List.getElem?_set_ne ne]; exact h1,List.getElem?_set_self (List.getElem?_eq_some_iff.mp h2).1⟩
theorem bT.set {i j:Nat} {b b':Int} {ts ts':Ts} (h:bT H i j b ts):bT (H.set j (stA b' ts')) i j b' ts':=⟨(mq h.obj h.att).1,(mq h.obj h.att).2⟩
theorem rV (F:br C "Store.__init__" ["self", "bound"] fW) {i j:Nat} (h1:H[i]?= some (.obj j)) (h2:H[j]?= some (.attrs [])) {b:Int} (hb:1≤b) (hb':b≤64):Calls C (k+1) "Store.__init__" [.loc i,.int b] H (.ok .none) (H.set j (stA b [])):=by
 refine bv F rfl (aY (tE (pV (mE (ou (aa rfl) (.int _) rfl)) (pV (ou (aa rfl) (.int _) rfl) (pV (mE (im ac (aa rfl) (er hb) ac (er hb'))) nJ)))) ?_)
 have q:=mq (fs':=[("bound",.int b)]) h1 h2
 refine ny (aa rfl) (aa rfl) (.mk h1 h2) (show 0 < 900 by decide) (ny (aR aF .lst) (aa rfl) (.mk q.1 q.2) (show 1 < 900 by decide) (aZ ⟨rfl,?_⟩))
 exact List.set_set ..
variable {i j:Nat} {b:Int} {ts:Ts}
theorem BM (F:br C "Store.put" ["self", "name", "value"] iJ) (S:bT H i j b ts) {n v:Int} (Gn:Calls C k "need_name" [.int n] H (.ok .none) H) (Gv:Calls C k "value_in" [.lst (ts.map pr),.int n] H (.ok (ft ts n)) H)
  (Gw:Calls C k "with_thing" [.lst (ts.map pr),.int n,.int v] H (.ok (.lst ((bt ts n v).map pr))) H):Calls C (k+1) "Store.put" [.loc i,.int n,.int v] H (.ok (ft ts n)) (H.set j (stA b (bt ts n v))):=
 bv F rfl (fq (ah (aE (aa rfl)) Gn) (aw (ah (bG (bC (aa rfl) S.at rfl) (aa rfl)) Gv) (ny (ah (sC (bC (aa rfl) S.at rfl) (aa rfl) (aa rfl)) Gw) (aa rfl) S.at (show 2 < 900 by decide) (aM (aa rfl) ⟨rfl,rfl⟩))))
theorem um (F:br C "Store.take" ["self", "name"] dN) (S:bT H i j b ts) {n v:Int} (Gn:Calls C k "need_name" [.int n] H (.ok .none) H) (Gv:Calls C k "value_in" [.lst (ts.map pr),.int n] H (.ok (ft ts n)) H) (hv:ft ts n=.int v)
  (Gw:Calls C k "without_thing" [.lst (ts.map pr),.int n] H (.ok (.lst ((woT ts n).map pr))) H):Calls C (k+1) "Store.take" [.loc i,.int n] H (.ok (.int v)) (H.set j (stA b (woT ts n))):=by
 rw [hv] at Gv
 exact bv F rfl (fq (ah (aE (aa rfl)) Gn) (aw (ah (bG (bC (aa rfl) S.at rfl) (aa rfl)) Gv) (aY (jk (aa rfl) mF (.is (.xn (fun e=>nomatch e)))) (ny (ah (bG (bC (aa rfl) S.at rfl) (aa rfl)) Gw) (aa rfl) S.at (show 2 < 900 by decide) (aM (aa rfl) ⟨rfl,rfl⟩)))))
theorem wA (F:br C "Store.take" ["self", "name"] dN) (hz:ak H) (S:bT H i j b ts) {n:Int} (Gn:Calls C k "need_name" [.int n] H (.ok .none) H) (Gv:Calls C k "value_in" [.lst (ts.map pr),.int n] H (.ok (ft ts n)) H) (hv:ft ts n=.none):Calls C (k+1) "Store.take" [.loc i,.int n] H (.err "NoThing") H:=by
 rw [hv] at Gv
 exact pK F rfl hz (fq (ah (aE (aa rfl)) Gn) (aw (ah (bG (bC (aa rfl) S.at rfl) (aa rfl)) Gv) (cV (jk (aa rfl) mF (.is .nn)) (vD hz (ry hz)))))
theorem tJ (F:br C "Store.things" ["self"] cI) (S:bT H i j b ts):Calls C (k+1) "Store.things" [.loc i] H (.ok (.lst (ts.map pr))) H:=
 az F rfl (aM (bu (aE (bC (aa rfl) S.at rfl)) (.list (.lst _)) .lst) (aB rfl (bK _ _)))
theorem wB (F:br C "Store.rooms" ["self"] dh) (S:bT H i j b ts) {u:V} (hl:low H.length u) (Gr:Calls C k "rooms_for" [.lst (ts.map pr),.int b] H (.ok u) H):Calls C (k+1) "Store.rooms" [.loc i] H (.ok u) H:=
 az F rfl (aM (ah (bG (bC (aa rfl) S.at rfl) (bC (aa rfl) S.at rfl)) Gr) (aB rfl hl))
end
end
noncomputable section
open PySem
noncomputable def aD (x:Rm):V:=.tup [.str x.1,.lst (x.2.map pr)]
noncomputable def mJ (x:Rm):List Nat×V:=(x.1,.lst (x.2.map pr))
theorem fD (n:Nat): ∀ xs:List Rm,lows n (xs.map aD)
 | []=>trivial
 | x::r=>⟨⟨trivial,bK n x.2,trivial⟩,fD n r⟩
section
variable {C:Cx} {k:Nat} {H:List HO}
theorem bJ {x:Rm}:Idx H (aD x) (.int 0) (.str x.1):=.tup (by decide) rfl
theorem aL {x:Rm}:Idx H (aD x) (.int 1) (.lst (x.2.map pr)):=.tup (by decide) rfl
theorem lx (F:br C "parted" ["room"] ki) (x:Rm) (hb:x.1.length < 8) (ht: ∀ t∈x.2,0≤t.1∧t.1≤255) (Gs: ∀ n:Int,0≤n→n≤255→Calls C k "signs" [.int n] H (.ok (.str (sgn n))) H):
  Calls C (k+1) "parted" [aD x] H (.ok (.tup [aD (x.1++[48],half x.1.length 48 x.2),aD (x.1++[49],half x.1.length 49 x.2)])) H:=by
 refine az F rfl (aw (ag (aa rfl) ac bJ) (aw (aH (aE (aa rfl)) (.len (.str _))) ?_))
 refine aw (aW (g:=pr) (q:=pr) (p:=fun t=>decide (sAt t.1 x.1.length=48)) (rs:=x.2) (ag (aa rfl) ac aL) (.lst _)
  (fun t h=>ai (ag (ah (aE (ag (aa rfl) ac bj)) (Gs _ (ht t h).1 (ht t h).2)) (aa rfl) (.str (Int.natCast_nonneg _) (eA _ hb))) aA (.eq (.self _) (.self _) rfl rfl) (fI _ _)) (fun _ _ _=>aa rfl) .lst) ?_
 refine aw (aW (g:=pr) (q:=pr) (p:=fun t=>decide (sAt t.1 x.1.length=49)) (rs:=x.2) (ag (aa rfl) ac aL) (.lst _)
  (fun t h=>ai (ag (ah (aE (ag (aa rfl) ac bj)) (Gs _ (ht t h).1 (ht t h).2)) (aa rfl) (.str (Int.natCast_nonneg _) (eA _ hb))) aA (.eq (.self _) (.self _) rfl rfl) (fI _ _)) (fun _ _ _=>aa rfl) .lst) ?_
 refine aM (aV (bG (aV (bG (af (aa rfl) aA (.cat ?_)) (aa rfl))) (aV (bG (af (aa rfl) aA (.cat ?_)) (aa rfl))))) (aB rfl ⟨⟨trivial,bK _ _,trivial⟩,⟨trivial,bK _ _,trivial⟩,trivial⟩)
 ·rw [List.length_singleton]; exact lin [_] [(1,.a (.v 0) (.n 1),.n 8)] 1 (.a (.v 0) (.n 1)) (.n 16000000) rfl hb
 ·rw [List.length_singleton]; exact lin [_] [(1,.a (.v 0) (.n 1),.n 8)] 1 (.a (.v 0) (.n 1)) (.n 16000000) rfl hb
theorem bW (b:Nat) (ts:Ts):(ae b ts).length≤256:=by
 have h:=pB (b:=b) 8 [] ts rfl
 have key: ∀ l:List Rm,l.length≤(l.map fun x=>2 ^ (8 - x.1.length)).sum:=by
  intro l
  induction l with
  | nil=>exact Nat.le_refl _
  | cons x l ih=>
   rw [List.map_cons,List.sum_cons,List.length_cons]
   have:0 < 2 ^ (8 - x.1.length):=Nat.two_pow_pos _
   exact lin [_,_,_] [(1,.v 0,.v 2),(1,.a (.n 0) (.n 1),.v 1)] 1 (.a (.v 0) (.n 1)) (.a (.v 1) (.v 2)) rfl ih this
 have:=key (ae b ts)
 rw [show (ae b ts)=dr b 8 [] ts from rfl,h] at this
 exact this
theorem pz {l:List Rm} (h:l.Pairwise fun x y=>x.1≠y.1) {x:Rm} (hx:x∈l):(l.map mJ).lookup x.1=some (.lst (x.2.map pr)):=by
 induction l with
 | nil=>cases hx
 | cons y l ih=>
  rw [List.map_cons,cB]
  by_cases q:x.1=y.1
  ·rw [if_pos (show (x.1 == (mJ y).1)=true from beq_iff_eq.mpr q)]
   rcases List.mem_cons.mp hx with rfl | hx
   ·rfl
   ·exact absurd q.symm ((List.pairwise_cons.mp h).1 x hx)
  ·rw [if_neg (show ¬ (x.1 == (mJ y).1)=true from fun z=>q (beq_iff_eq.mp z))]
   rcases List.mem_cons.mp hx with rfl | hx
   ·exact absurd rfl q
   ·exact ih (List.pairwise_cons.mp h).2 hx
theorem vF {l:List Rm} {x:Rm} (h: ∀ y∈l,y.1≠x.1):nF x.1 (.lst (x.2.map pr)) (l.map mJ)=(l++[x]).map mJ:=by
 rw [nF,if_neg,List.map_append]; · rfl
 intro q
 obtain ⟨p,h1,h2⟩:=List.mem_map.mp q
 obtain ⟨y,h3,rfl⟩:=List.mem_map.mp h1
 exact h y h3 h2
theorem qV {a b:List Nat} (h:a < b):leV (.str a) (.str b)=true:=decide_eq_true (List.le_of_lt h)
structure BP (H:List HO) (b:Nat) (ts:Ts) (m:Nat) (st:St) (w fd:List Rm):Prop where
 tab:st.H=H++[.list (w.map aD)]++[.dictS (fd.map mJ)]
 wait:st.s "waiting" =some (.loc H.length)
 found:st.s "found" =some (.loc (H.length+1))
 bnd:st.s "bound" =some (.int b)
 ok: ∀ x∈w,WOk x
 all:bZ b w++fd.reverse=ae b ts
 left:fu b w=m
theorem uM {H:List HO} {x y:HO}:(H++[x]++[y])[H.length]?= some x:=by rw [List.append_assoc,List.getElem?_append_right (Nat.le_refl _),Nat.sub_self]; rfl
theorem wX {H:List HO} {x y:HO}:(H++[x]++[y])[H.length+1]?= some y:=by rw [List.getElem?_append_right (by rw [List.length_append]; exact Nat.le_refl _),List.length_append,List.length_singleton,Nat.sub_self]; rfl
theorem oV {H:List HO} {x y z:HO}:(H++[x]++[y]).set H.length z=H++[z]++[y]:=by rw [List.append_assoc,List.set_append_right _ _ (Nat.le_refl _),Nat.sub_self,List.append_assoc]; rfl
theorem Dl {H:List HO} {x y z:HO}:(H++[x]++[y]).set (H.length+1) z=H++[x]++[z]:=by
 rw [List.set_append_right _ _ (by rw [List.length_append]; exact Nat.le_refl _),List.length_append,List.length_singleton,Nat.sub_self]; rfl
theorem hV {H:List HO} {x y:HO} (h:ak H) (hx: ∀ c,x≠.inst c) (hy: ∀ c,y≠.inst c):ak (H++[x]++[y]):=fun c q=>by
 rcases List.mem_append.mp q with q | q
 ·rcases List.mem_append.mp q with q | q
  ·exact h c q
  ·exact hx c (List.mem_singleton.mp q).symm
 ·exact hy c (List.mem_singleton.mp q).symm
theorem mP (F:br C "rooms_for" ["things", "bound"] cu) (hz:ak H) {b:Nat} (hb:1≤b) {ts:Ts} (ho:Ok ts)
  (Gp: ∀ (H:List HO) (x:Rm),x.1.length < 8→(∀ t∈x.2,0≤t.1∧t.1≤255)→Calls C k "parted" [aD x] H (.ok (.tup [aD (x.1++[48],half x.1.length 48 x.2),aD (x.1++[49],half x.1.length 49 x.2)])) H):
  Calls C (k+1) "rooms_for" [.lst (ts.map pr),.int b] H (.ok (.lst ((ae b ts).map aD))) H:=by
 refine az F rfl (aw (aR (aE (aV (bG aA (bu (aE (aa rfl)) (.list (.lst _)) .lst)))) .loc) (aw kb ?_))
 have left:=la (b:=b) 8 [] ts
 refine vC (fun m st=>∃ w fd,BP H b ts m st w fd) (fu b [([],ts)]) ⟨[([],ts)],[],⟨rfl,rfl,?_,rfl,fun x hx=>?_,?_,rfl⟩⟩ ?_ ?_
 ·show some (V.loc (H++[_]).length)=_
  rw [List.length_append]; rfl
 ·rw [List.mem_singleton.mp hx]; exact ⟨Nat.zero_le _,ig _,ho⟩
 ·rw [bZ,List.flatMap_singleton,List.reverse_nil,List.append_nil]; rfl
 ·rintro m ⟨s,H'⟩ ⟨w,fd,⟨e1,e2,e3,e4,e5,e6,e7⟩⟩
  have e1:H'=_:=e1
  subst e1
  rcases List.eq_nil_or_concat w with rfl | ⟨w,x,rfl⟩
  ·cases e7
  rw [List.concat_eq_append] at*
  have px:WOk x:=e5 x (List.mem_append.mpr (.inr (List.mem_singleton.mpr rfl)))
  have pw: ∀ y∈w,WOk y:=fun y hy=>e5 y (List.mem_append.mpr (.inl hy))
  have g:(H++[HO.list ((w++[x]).map aD)]++[.dictS (fd.map mJ)])[H.length]?= some (.list (w.map aD++[aD x])):=by rw [uM,List.map_append]; rfl
  refine ⟨_,ai (aH (aE (aa (by exact e2))) (.len (.seq (.loc g)))) ac (.gt _ _) (decide_eq_true (Int.ofNat_lt.mpr (by rw [List.length_append]; exact Nat.succ_pos _))),fun Q' hQ=>?_⟩
  refine aw (rE (aa (by exact e2)) g) ?_
  by_cases hl:x.2.length≤b
  ·obtain ⟨t1,t2⟩:=jb (w:=w) hl
   have fresh: ∀ y∈fd,y.1≠x.1:=fun y hy=>by
    have p:=left
    rw [show dr b 8 [] ts=ae b ts from rfl,← e6,t2] at p
    exact fun z=>((List.pairwise_append.mp p).2.2 x (List.mem_append.mpr (.inr (List.mem_singleton.mpr rfl))) y (List.mem_reverse.mpr hy)).ne z.symm
   have few:fd.length < 1000000:=by
    have:=congrArg List.length e6
    rw [List.length_append,List.length_reverse] at this
    have:=bW b ts
    exact lin [_,_,_] [(1,.a (.v 1) (.v 0),.v 2),(1,.v 2,.n 256)] 1 (.a (.v 0) (.n 1)) (.n 1000000) rfl (l_e (by assumption)) this
   refine cV (ai (aH (aE (ag (aa rfl) ac aL)) (.len (.seq (.lst _)))) (aa (by exact e4)) (.le _ _) (decide_eq_true (by rw [List.length_map]; exact Int.ofNat_le.mpr hl))) ?_
   refine qx (kvs:=fd.map mJ) (ag (aa rfl) ac aL) (aa (by exact e3)) (ag (aa rfl) ac bJ) (by rw [oV]; exact wX) (by rw [List.length_map]; exact few) (aZ (aG (aZ ?_)))
   refine (hQ _ ⟨w,fd++[x],⟨?_,by exact e2,by exact e3,by exact e4,pw,?_,?_⟩⟩).1
   ·show ((H++[HO.list ((w++[x]).map aD)]++[HO.dictS (fd.map mJ)]).set H.length (.list (w.map aD))).set (H.length+1) (.dictS (nF x.1 (.lst (x.2.map pr)) (fd.map mJ)))=_
    rw [oV,Dl,vF fresh]
   ·rw [List.reverse_append,← e6,t2,List.append_assoc]; rfl
   ·rw [t1] at e7; exact Nat.succ.inj e7
  ·obtain ⟨h1,h2,h3,_⟩:=px.split hb hl
   obtain ⟨t1,t2⟩:=jc (w:=w) hb px hl
   refine sS (ai (aH (aE (ag (aa rfl) ac aL)) (.len (.seq (.lst _)))) (aa (by exact e4)) (.le _ _) (decide_eq_false (by rw [List.length_map]; exact fun q=>hl (Int.ofNat_le.mp q)))) ?_
   refine aw (ah (aE (aa rfl)) (Gp _ x h1 px.2.2.low)) ?_
   have small:(w.map aD).length < 1000:=by
    have a1: ∀ l:List Rm,l.length≤(bZ b l).length:=fun l=>by
     induction l with
     | nil=>exact Nat.le_refl _
     | cons y l ih=>
      rw [bZ,List.flatMap_cons,List.length_append,List.length_cons]
      have:1≤(dr b (8 - y.1.length) y.1 y.2).length:=List.length_pos_iff.mpr (df _ _ _)
      have ih:l.length≤(List.flatMap (fun x=>dr b (8 - x.1.length) x.1 x.2) l).length:=ih
      exact li [_,_,_] [([0],[2]),([1],[3])] [1,0] [2,3] rfl this ih
    have:=congrArg List.length e6
    rw [List.length_append] at this
    have:=bW b ts
    have:=a1 (w++[x])
    rw [List.length_append,List.length_singleton] at this
    rw [List.length_map]; exact lin [_,_,_,_] [(1,.a (.v 1) (.v 2),.v 3),(1,.v 3,.n 256),(1,.a (.v 0) (.n 1),.v 1)] 1 (.a (.v 0) (.n 1)) (.n 1000) rfl (l_e (by assumption)) (by assumption) this
   have g1:((H++[HO.list ((w++[x]).map aD)]++[HO.dictS (fd.map mJ)]).set H.length (.list (w.map aD)))[H.length]?= some (.list (w.map aD)):=by rw [oV,uM]
   refine fq (aN (aa (by exact e2)) g1 (aE (ag (aa rfl) ac (.tup (by decide) rfl))) g1 (Nat.lt_trans small (by decide))) ?_
   have g2:(((H++[HO.list ((w++[x]).map aD)]++[HO.dictS (fd.map mJ)]).set H.length (.list (w.map aD))).set H.length (.list (w.map aD++[aD (x.1++[48],half x.1.length 48 x.2)])))[H.length]?= some (.list (w.map aD++[aD (x.1++[48],half x.1.length 48 x.2)])):=by rw [oV,oV,uM]
   refine fq (aN (aa (by exact e2)) g2 (aE (ag (aa rfl) ac (.tup (by decide) rfl))) g2 (by rw [List.length_append,List.length_singleton]; exact Nat.lt_trans (Nat.succ_lt_succ small) (by decide))) ?_
   refine aZ (aG (aZ ?_))
   refine (hQ _ ⟨w++[(x.1++[48],half x.1.length 48 x.2),(x.1++[49],half x.1.length 49 x.2)],fd,⟨?_,by exact e2,by exact e3,by exact e4,fun y hy=>?_,?_,?_⟩⟩).1
   ·show (((H++[HO.list ((w++[x]).map aD)]++[HO.dictS (fd.map mJ)]).set H.length (.list (w.map aD))).set H.length (.list (w.map aD++[aD (x.1++[48],half x.1.length 48 x.2)]))).set H.length (.list (w.map aD++[aD (x.1++[48],half x.1.length 48 x.2)]++[aD (x.1++[49],half x.1.length 49 x.2)]))=_
    rw [oV,oV,oV,List.map_append,List.append_assoc (w.map aD)]; rfl
   ·rcases List.mem_append.mp hy with hy | hy
    ·exact pw y hy
    ·rcases List.mem_cons.mp hy with rfl | hy
     ·exact h2
     ·rw [List.mem_singleton.mp hy]; exact h3
   ·rw [← t2]; exact e6
   ·rw [t1] at e7; exact Nat.succ.inj e7
 ·rintro ⟨s,H'⟩ ⟨w,fd,⟨e1,e2,e3,e4,e5,e6,e7⟩⟩
  have e1:H'=_:=e1
  subst e1
  have hw:w=[]:=by
   cases w with
   | nil=>rfl
   | cons x w=>
    have:1≤(dr b (8 - x.1.length) x.1 x.2).length:=List.length_pos_iff.mpr (df _ _ _)
    rw [fu,List.map_cons,List.sum_cons] at e7
    exact (l_z (lin [_,_,_] [(1,.a (.v 0) (.v 1),.n 0),(2,.n 1,.v 2),(1,.m 2 (.v 2),.a (.v 0) (.n 1))] 0 (.n 1) (.n 0) rfl (l_e e7) this (l_g _ _))).elim
  subst hw
  have hfd:fd=(ae b ts).reverse:=by rw [← e6]; show fd=(([]:List Rm)++fd.reverse).reverse; rw [List.nil_append,List.reverse_reverse]
  refine ⟨_,ai (aH (aE (aa (by exact e2))) (.len (.seq (.loc uM)))) ac (.gt _ _) rfl,?_⟩
  have ne:(ae b ts).Pairwise fun x y=>x.1≠y.1:=left.imp fun q=>q.ne
  have lk: ∀ x∈ae b ts,(fd.map mJ).lookup x.1=some (.lst (x.2.map pr)):=fun x hx=>pz (by rw [hfd,List.pairwise_reverse]; exact ne.imp fun q z=>q z.symm) (by rw [hfd]; exact List.mem_reverse.mpr hx)
  have perm:((ae b ts).map fun x=>V.str x.1).Perm ((fd.map mJ).map fun p=>V.str p.1):=by
   rw [hfd,List.map_map]
   exact ((List.reverse_perm _).symm).map _
  have few:=bW b ts
  refine aM (cD (g:=fun x:Rm=>V.str x.1) (q:=aD) (rs:=ae b ts) (bu (aE (bu (aE (aa (by exact e3))) (.listS (hV hz (fun _=>HO.noConfusion) fun _=>HO.noConfusion) wX) .lst))
   (.sorted (.lst _) (.txts fun v hv=>?_) ?_ perm ?_) .lst) (.lst _) (fun x hx=>aV (bG (aa rfl) (ag (aa (by exact e3)) (aa rfl) (.keyS wX (lk x hx))))) .lst) ⟨rfl,fD _ _,?_⟩
  ·obtain ⟨p,_,rfl⟩:=List.mem_map.mp hv; exact ⟨_,rfl⟩
  ·rw [← perm.length_eq,List.length_map]; exact lin [_] [(1,.v 0,.n 256)] 1 (.v 0) (.n 1000000) rfl few
  ·rw [List.pairwise_map]; exact left.imp fun q=>qV q.lt
  ·show (H++[_]++[_]).take H.length=H
   rw [List.append_assoc,List.take_left]
end
end
noncomputable section
open PySem
noncomputable def lB:Ss:=
 (.cons (.asg "rows" (.list (.cons (.bin .Add (.str [98,111,117,110,100,32]) (.blt .str (.cons (.attr (.var "store") "bound") .nil))) .nil)))
 (.cons (.for_ "room" (.mcall "Store.rooms" "rooms" (.var "store") .nil) (.cons (.asg "words" (.comp (.bin .Add (.bin .Add (.bin .Add (.str [32]) (.blt .str (.cons (.idx (.var "thing") (.int 0)) .nil))) (.str [61])) (.blt .str (.cons (.idx (.var "thing") (.int 1)) .nil))) "thing" (.idx (.var "room") (.int 1))))
 (.cons (.ex (.mth .append (.var "rows") (.cons (.bin .Add (.bin .Add (.idx (.var "room") (.int 0)) (.str [58])) (.mth .join (.str []) (.cons (.var "words") .nil))) .nil)))
 .nil)))
 (.cons (.ret (.mth .join (.str [10]) (.cons (.var "rows") .nil)))
 .nil)))
noncomputable def iz:Ss:=
 (.cons (.asg "figures" (.var "word"))
 (.cons (.ite (.cmp .Eq (.slc (.var "word") .omit (.int 1)) (.str [45])) (.cons (.asg "figures" (.slc (.var "word") (.int 1) .omit))
 .nil) .nil)
 (.cons (.ite (.not (.cmp2 .LtE .LtE (.int 1) (.blt .len (.cons (.var "figures") .nil)) (.var "most"))) (.cons (.raise "NoStore")
 .nil) .nil)
 (.cons (.for_ "sign" (.var "figures") (.cons (.ite (.cmp .NotIn (.var "sign") (.str [48,49,50,51,52,53,54,55,56,57])) (.cons (.raise "NoStore")
 .nil) .nil)
 .nil))
 (.cons (.ret (.blt .int (.cons (.var "word") .nil)))
 .nil)))))
noncomputable def uu:Ss:=
 (.cons (.asg "rows" (.mth .split (.var "text") (.cons (.str [10]) .nil)))
 (.cons (.ite (.cmp .NotEq (.slc (.idx (.var "rows") (.int 0)) .omit (.int 6)) (.str [98,111,117,110,100,32])) (.cons (.raise "NoStore")
 .nil) .nil)
 (.cons (.asg "bound" (.call "number_of" (.cons (.slc (.idx (.var "rows") (.int 0)) (.int 6) .omit) (.cons (.int 2) .nil))))
 (.cons (.ite (.not (.cmp2 .LtE .LtE (.int 1) (.var "bound") (.int 64))) (.cons (.raise "NoStore")
 .nil) .nil)
 (.cons (.asg "store" (.make (.cons (.var "bound") .nil)))
 (.cons (.for_ "row" (.slc (.var "rows") (.int 1) .omit) (.cons (.asg "words" (.mth .split (.var "row") (.cons (.str [32]) .nil)))
 (.cons (.for_ "word" (.slc (.var "words") (.int 1) .omit) (.cons (.asg "parts" (.mth .split (.var "word") (.cons (.str [61]) .nil)))
 (.cons (.ite (.cmp .NotEq (.blt .len (.cons (.var "parts") .nil)) (.int 2)) (.cons (.raise "NoStore")
 .nil) .nil)
 (.cons (.asg "name" (.call "number_of" (.cons (.idx (.var "parts") (.int 0)) (.cons (.int 3) .nil))))
 (.cons (.ite (.not (.cmp2 .LtE .LtE (.int 0) (.var "name") (.int 255))) (.cons (.raise "NoStore")
 .nil) .nil)
 (.cons (.ex (.mcall "Store.put" "put" (.var "store") (.cons (.var "name") (.cons (.call "number_of" (.cons (.idx (.var "parts") (.int 1)) (.cons (.int 60) .nil))) .nil))))
 .nil))))))
 .nil)))
 (.cons (.ite (.cmp .NotEq (.call "written" (.cons (.var "store") .nil)) (.var "text")) (.cons (.raise "NoStore")
 .nil) .nil)
 (.cons (.ret (.var "store"))
 .nil))))))))
noncomputable def wP (ts:Ts):Prop:=∀ t∈ts,t.2.natAbs < 10 ^ 60
theorem pH (i:Int):ar i=ar (i.natAbs:Int)∨ar i=45::ar (i.natAbs:Int):=by
 cases i with
 | ofNat m=>exact .inl rfl
 | negSucc m=>exact .inr (ec m)
theorem fU {i:Int} {n:Nat} (hn:0 < n) (h:i.natAbs < 10 ^ n):(ar i).length≤n+1:=by
 have:=cO hn h
 rcases pH i with e | e
 ·rw [e]; exact li [_,n] [([1],[2])] [1] [2,0] rfl this
 ·rw [e,List.length_cons]; exact li [_,n] [([1],[2])] [1,0] [2,0] rfl this
theorem mZ {t:Int×Int} (h1:0≤t.1∧t.1≤255) (h2:t.2.natAbs < 10 ^ 60):(ar t.1).length≤4∧(ar t.2).length≤61:=
 ⟨fU (n:=3) (by decide) (by have:=h1.1; have:=h1.2; lia),fU (n:=60) (by decide) h2⟩
theorem qZ {α:Type} (f:α→List Nat) (l:List α):bf [] (l.map f)=l.flatMap f:=by
 cases l with
 | nil=>rfl
 | cons x l=>rw [List.map_cons,bf,List.flatMap_cons,List.flatMap_map]; rfl
theorem mA {sep:List Nat} {B:Nat} (ss:List (List Nat)) (h: ∀ s∈ss,s.length≤B):(bf sep ss).length≤ss.length*(B+sep.length):=by
 cases ss with
 | nil=>exact Nat.zero_le _
 | cons p ss=>
  have key: ∀ l:List (List Nat),(∀ s∈l,s.length≤B)→(l.flatMap fun q=>sep++q).length≤l.length*(B+sep.length):=by
   intro l
   induction l with
   | nil=>exact fun _=>Nat.zero_le _
   | cons q l ih=>
    intro h
    rw [List.flatMap_cons,List.length_append,List.length_append,List.length_cons,Nat.succ_mul]
    have:=h q List.mem_cons_self
    have:=ih fun s hs=>h s (List.mem_cons_of_mem _ hs)
    exact lin [_,_,_,_,B] [(1,.v 1,.v 4),(1,.v 2,.v 3)] 1 (.a (.a (.v 0) (.v 1)) (.v 2)) (.a (.v 3) (.a (.v 4) (.v 0))) rfl (by assumption) this
  rw [bf,List.length_append,List.length_cons,Nat.succ_mul]
  have:=h p List.mem_cons_self
  have:=key ss fun s hs=>h s (List.mem_cons_of_mem _ hs)
  exact lin [_,_,_,B,_] [(1,.v 0,.v 3),(1,.v 1,.v 2)] 1 (.a (.v 0) (.v 1)) (.a (.v 2) (.a (.v 3) (.v 4))) rfl (by assumption) this
theorem pD {α:Type} {f:α→List Nat} {B:Nat} (l:List α) (h: ∀ x∈l,(f x).length≤B):(l.flatMap f).length≤l.length*B:=by
 induction l with
 | nil=>exact Nat.zero_le _
 | cons x l ih=>
  rw [List.flatMap_cons,List.length_append,List.length_cons,Nat.succ_mul]
  have:=h x List.mem_cons_self
  have:=ih fun s hs=>h s (List.mem_cons_of_mem _ hs)
  exact li [_,_,_,B] [([1],[4]),([2],[3])] [1,2] [3,4] rfl (by assumption) this
theorem gv {α:Type} (xs:List α) (n:Nat):slice xs (iM xs.length (some (n:Int))) (iU xs.length none)=xs.drop n:=by
 show ((xs.take xs.length).drop (cut xs.length n))=_
 rw [List.take_length,cut,if_neg (Int.not_lt.mpr (Int.natCast_nonneg n)),Int.toNat_natCast]
 by_cases h:n≤xs.length
 ·rw [Nat.min_eq_left h]
 ·rw [Nat.min_eq_right (Nat.le_of_not_le h),List.drop_length,List.drop_eq_nil_of_le (Nat.le_of_not_le h)]
structure Stk (b:Nat) (ts:Ts):Prop where
 b1:1≤b
 b64:b≤64
 ok:Ok ts
 vals:wP ts
section
variable {b:Nat} {ts:Ts}
theorem Stk.room (g:Stk b ts) {x:Rm} (hx:x∈ae b ts):x.1.length≤8∧x.2.length≤64∧(∀ t∈x.2,(0≤t.1∧t.1≤255)∧t.2.natAbs < 10 ^ 60)∧∀ c∈x.1,c=48∨c=49:=by
 have h1:=lb 8 [] ts (fun c h=>by cases h) x hx
 have h2:=nZ g.b1 8 [] ts rfl (ig _) g.ok x hx
 have h3:=rj 8 [] ts rfl (ig _) x hx
 refine ⟨by have:=h1.1; exact this,Nat.le_trans h2 g.b64,fun t ht=>?_,h1.2⟩
 rw [h3] at ht
 have:=(List.mem_filter.mp ht).1
 exact ⟨g.ok.low t this,g.vals t this⟩
theorem kv {t:Int×Int} (h:(0≤t.1∧t.1≤255)∧t.2.natAbs < 10 ^ 60):(eg t).length≤66:=by
 obtain ⟨h1,h2⟩:=mZ h.1 h.2
 rw [eg,List.length_append,List.length_cons]; exact lin [_,_] [(1,.v 0,.n 4),(1,.v 1,.n 61)] 1 (.a (.v 0) (.a (.v 1) (.n 1))) (.n 66) rfl h1 h2
theorem Stk.words (g:Stk b ts) {x:Rm} (hx:x∈ae b ts):(x.2.flatMap fun t=>32::eg t).length≤64*67:=by
 obtain ⟨h1,h2,h3,_⟩:=g.room hx
 refine Nat.le_trans (pD (B:=67) x.2 fun t ht=>?_) (Nat.mul_le_mul_right _ h2)
 have:=kv (h3 t ht)
 rw [List.length_cons]; exact lin [_] [(1,.v 0,.n 66)] 1 (.a (.v 0) (.n 1)) (.n 67) rfl this
theorem Stk.row (g:Stk b ts) {x:Rm} (hx:x∈ae b ts):(lI x).length≤5000:=by
 have h1:=(g.room hx).1
 have h2:=g.words hx
 rw [lI,List.length_append,List.length_cons]; exact lin [_,_] [(1,.v 0,.n 8),(1,.v 1,.m 64 (.n 67))] 1 (.a (.v 0) (.a (.v 1) (.n 1))) (.n 5000) rfl h1 h2
theorem ly (h:b≤64):(cF b).length≤10:=by
 have:=cO (m:=b) (k:=2) (by decide) (by lia)
 rw [cF,List.length_append]; exact Nat.le_trans (Nat.add_le_add_left this 6) (by decide)
theorem Stk.rows (g:Stk b ts):(eB b ts).length≤257∧∀ r∈eB b ts,r.length≤5000:=by
 refine ⟨by rw [eB,List.length_cons,List.length_map]; exact Nat.succ_le_succ (bW b ts),fun r hr=>?_⟩
 rcases List.mem_cons.mp hr with rfl | hr
 ·exact Nat.le_trans (ly g.b64) (by decide)
 ·obtain ⟨x,hx,rfl⟩:=List.mem_map.mp hr
  exact g.row hx
theorem Stk.text (g:Stk b ts):(iQ b ts).length+((eB b ts).length+1)*([10].length+1)≤2000000:=by
 have h1:=mA (sep:=[10]) (eB b ts) g.rows.2
 have h2:(eB b ts).length*(5000+[10].length)≤257*5001:=Nat.mul_le_mul_right _ g.rows.1
 have h3:=g.rows.1
 show (bf [10] (eB b ts)).length+((eB b ts).length+1)*2≤2000000
 omega
end
section
variable {C:Cx} {k:Nat} {H:List HO} {i j:Nat} {b:Nat} {ts:Ts}
theorem bT.ext {b:Int} (S:bT H i j b ts) (L:List HO):bT (H++L) i j b ts:=⟨by rw [List.getElem?_append_left (List.getElem?_eq_some_iff.mp S.obj).1]; exact S.obj,by rw [List.getElem?_append_left (List.getElem?_eq_some_iff.mp S.att).1]; exact S.att⟩
theorem ci {H:List HO} {x:HO}:(H++[x])[H.length]?= some x:=by rw [List.getElem?_append_right (Nat.le_refl _),Nat.sub_self]; rfl
theorem ez {H:List HO} {x z:HO}:(H++[x]).set H.length z=H++[z]:=by rw [List.set_append_right _ _ (Nat.le_refl _),Nat.sub_self]; rfl
theorem dw {H:List HO} {x:HO} (h:ak H) (hx: ∀ c,x≠.inst c):ak (H++[x]):=fun c q=>by
 rcases List.mem_append.mp q with q | q
 ·exact h c q
 ·exact hx c (List.mem_singleton.mp q).symm
theorem bL {α:Type} {f:α→V} {l:List α} {i:Nat} {v:V} (h:(l.map f)[i]?= some v): ∃ hi:i < l.length,v=f l[i]:=by
 rw [List.getElem?_map] at h
 obtain ⟨t,h1,rfl⟩:=Option.map_eq_some_iff.mp h
 obtain ⟨h2,rfl⟩:=List.getElem?_eq_some_iff.mp h1
 exact ⟨h2,rfl⟩
theorem rQ (F:br C "written" ["store"] lB) (hz:ak H) (g:Stk b ts) (S:bT H i j b ts)
  (Gr: ∀ H:List HO,ak H→bT H i j b ts→Calls C k "Store.rooms" [.loc i] H (.ok (.lst ((ae b ts).map aD))) H):Calls C (k+1) "written" [.loc i] H (.ok (.str (iQ b ts))) H:=by
 refine az F rfl (aw (aR (aE (af aA (aH (aE (bC (aa rfl) S.at rfl)) (.str ?_)) (.cat ?_))) .loc) ?_)
 ·have:=g.b64; exact Nat.lt_of_le_of_lt this (by decide)
 ·have:=ly g.b64
  rw [cF,List.length_append] at this
  exact Nat.le_trans this (by decide)
 refine eh (fun l st=>st.H=H++[.list ((cF b::((ae b ts).take l).map lI).map .str)]∧st.s "rows" =some (.loc H.length))
  (aQ (aa rfl) (S.ext _).at rfl aF (Gr _ (dw hz fun _=>HO.noConfusion) (S.ext _))) (.lst _) ⟨rfl,rfl⟩ ?_ ?_
 ·rintro l w ⟨s,H'⟩ hw ⟨e1,e2⟩ Q' hQ
  have e1:H'=_:=e1
  subst e1
  obtain ⟨hl,rfl⟩:=bL hw
  generalize hx:(ae b ts)[l]=x
  have mx:x∈ae b ts:=hx▸List.getElem_mem hl
  obtain ⟨h1,h2,h3,_⟩:=g.room mx
  refine aw (eH (g:=pr) (q:=fun t=>V.str (32::eg t)) (rs:=x.2) (ag (aa rfl) ac aL) (.lst _) (fun t ht=>?_) .lst) ?_
  ·obtain ⟨l1,l2⟩:=mZ (h3 t ht).1 (h3 t ht).2
   have a1:t.1.natAbs < 10 ^ 100:=Nat.lt_of_le_of_lt (by have:=(h3 t ht).1.1; have:=(h3 t ht).1.2; lia:t.1.natAbs≤255) (by decide)
   have a2:t.2.natAbs < 10 ^ 100:=Nat.lt_trans (h3 t ht).2 (by decide)
   refine cf (af (af (af aA (aH (aE (ag (aa rfl) ac bj)) (.str a1)) (.cat ?_)) aA (.cat ?_)) (aH (aE (ag (aa rfl) ac gx)) (.str a2)) (.cat ?_)) (congrArg V.str ?_)
   ·simp only [List.length_singleton]; exact lin [_] [(1,.v 0,.n 4)] 1 (.a (.n 1) (.v 0)) (.n 16000000) rfl l1
   ·simp only [List.length_append,List.length_singleton]; exact lin [_] [(1,.v 0,.n 4)] 1 (.a (.a (.n 1) (.v 0)) (.n 1)) (.n 16000000) rfl l1
   ·simp only [List.length_append,List.length_singleton]; exact lin [_,_] [(1,.v 0,.n 4),(1,.v 1,.n 61)] 1 (.a (.a (.a (.n 1) (.v 0)) (.n 1)) (.v 1)) (.n 16000000) rfl l1 l2
   ·rw [eg,List.append_assoc,List.append_assoc]; rfl
  ·have vw:gc (H++[HO.list ((cF b::((ae b ts).take l).map lI).map .str)]) (.lst (x.2.map fun t=>V.str (32::eg t))) ((x.2.map fun t=>32::eg t).map .str):=by
    rw [List.map_map]; exact .lst _
   have hj:=qZ (fun t=>32::eg t) x.2
   have hw:=g.words mx
   have hs:(bf [] (x.2.map fun t=>32::eg t)).length+((x.2.map fun t=>32::eg t).length+1)*(([]:List Nat).length+1)≤16000000:=by
    rw [hj,List.length_map]
    show _+(x.2.length+1)*1≤_
    lia
   refine fq (aN (aa (by exact e2)) ci (aE (cf (af (af (ag (aa rfl) ac bJ) aA (.cat ?_)) (ot aA (.join _) (aE (aa rfl)) (.join vw hs)) (.cat ?_)) (v':=.str (lI x)) (congrArg V.str ?_))) ci ?_) (aZ (hQ _ (by
    refine ⟨?_,e2⟩
    show (H++[HO.list ((cF b::((ae b ts).take l).map lI).map .str)]).set H.length _=_
    rw [ez,List.take_succ_eq_append_getElem hl,hx,List.map_append,← List.cons_append,List.map_append]; rfl)).1)
   ·rw [List.length_singleton]; exact lin [_] [(1,.v 0,.n 8)] 1 (.a (.v 0) (.n 1)) (.n 16000000) rfl h1
   ·rw [hj,List.length_append,List.length_singleton]; exact lin [_,_] [(1,.v 0,.n 8),(1,.v 1,.m 64 (.n 67))] 1 (.a (.a (.v 0) (.n 1)) (.v 1)) (.n 16000000) rfl h1 hw
   ·rw [hj,lI,List.append_assoc]; rfl
   ·rw [List.length_map,List.length_cons,List.length_map,List.length_take]
    have:=bW b ts
    exact lin [_,l,_] [(1,.a (.v 1) (.n 1),.v 2),(1,.v 2,.n 256),(1,.v 0,.v 1)] 1 (.a (.a (.v 0) (.n 1)) (.n 1)) (.n 16000000) rfl hl this (Nat.min_le_left _ _)
 ·rintro ⟨s,H'⟩ ⟨e1,e2⟩
  have e1:H'=_:=e1
  subst e1
  have e3:(cF b::((ae b ts).take ((ae b ts).map aD).length).map lI)=eB b ts:=by rw [List.length_map,List.take_length]; rfl
  have hs:=g.text
  refine aM (ot aA (.join _) (aE (aa (by exact e2))) (.join (ss:=eB b ts) (.loc (by rw [← e3]; exact ci)) (Nat.le_trans hs (by decide)))) ⟨rfl,trivial,?_⟩
  show (H++[_]).take H.length=H
  rw [List.take_left]
theorem tM (F:br C "number_of" ["word", "most"] iz) (i:Int) {most:Nat} (hm:(ar (i.natAbs:Int)).length≤most) (hm':most≤300):Calls C (k+1) "number_of" [.str (ar i),.int most] H (.ok (.int i)) H:=by
 have fg:=gF i.natAbs
 have ne:=rL i.natAbs
 have dv:=mK i.natAbs
 have l1:1≤(ar (i.natAbs:Int)).length:=List.length_pos_iff.mpr ne
 refine az F rfl (aw (aa rfl) ?_)
 have tail: ∀ st:St,st.H=H→st.s "figures" =some (.str (ar (i.natAbs:Int)))→st.s "word" =some (.str (ar i))→st.s "most" =some (.int most)→
   wSs (Calls C k) C.glo (.cons (.ite (.not (.cmp2 .LtE .LtE (.int 1) (.blt .len (.cons (.var "figures") .nil)) (.var "most"))) (.cons (.raise "NoStore") .nil) .nil) (.cons (.for_ "sign" (.var "figures") (.cons (.ite (.cmp .NotIn (.var "sign") (.str [48,49,50,51,52,53,54,55,56,57])) (.cons (.raise "NoStore") .nil) .nil) .nil)) (.cons (.ret (.blt .int (.cons (.var "word") .nil))) .nil))) st (fun fl st=>kG fl=.int i∧low H.length (.int i)∧st.H.take H.length=H) noX:=by
  rintro ⟨s,H'⟩ e1 e2 e3 e4
  have e1:H'=H:=e1
  subst e1
  refine aY (mE (im ac (aH (aE (aa (by exact e2))) (.len (.str _))) (er (Int.ofNat_le.mpr l1)) (aa (by exact e4)) (er (Int.ofNat_le.mpr hm)))) ?_
  refine eh (fun l st=>st.H=H'∧st.s "word" =some (.str (ar i))) (aa (by exact e2)) (.str _) ⟨rfl,e3⟩ ?_ ?_
  ·rintro l w ⟨s,H'⟩ hw ⟨q1,q2⟩ Q' hQ
   have q1:H'=_:=q1
   subst q1
   obtain ⟨hl,rfl⟩:=bL hw
   refine aY (ai (aa rfl) aA (.nin (.sign _ _)) ?_) (aZ (hQ _ (by exact ⟨rfl,q2⟩)).1)
   have:=fg _ (List.getElem_mem hl)
   generalize (ar (i.natAbs:Int))[l]=c at this
   rw [decide_eq_true (by simp only [List.mem_cons,List.not_mem_nil,or_false]; lia)]; rfl
  ·rintro ⟨s,H'⟩ ⟨q1,q2⟩
   have q1:H'=_:=q1
   subst q1
   cases i with
   | ofNat m=>exact aM (cf (aH (aE (aa (by exact q2))) (.intT fg ne (Nat.le_trans hm hm'))) (congrArg (fun n:Nat=>V.int n) dv)) (aB rfl trivial)
   | negSucc m=>
    rw [ec] at q2
    exact aM (cf (aH (aE (aa (by exact q2))) (.intN fg ne (Nat.le_trans hm hm'))) (congrArg (fun n:Nat=>V.int (-(n:Int))) dv)) (aB rfl trivial)
 cases i with
 | ofNat m=>
  refine aY (ai (gH (aa rfl) rfl ac (.str _)) aA (.eq (.self _) (.self _) rfl rfl) ?_) (tail _ rfl rfl rfl rfl)
  rw [gK]
  refine decide_eq_false fun q=>?_
  rw [show ((1:Int))=((1:Nat):Int) from rfl,gp] at q
  have h45:45∈ar ((m:Nat):Int):=List.mem_of_mem_take (show 45∈(ar ((m:Nat):Int)).take 1 by rw [show ar ((m:Nat):Int)=ar (Int.ofNat m) from rfl,q]; exact List.mem_cons_self)
  have:=gF m 45 h45
  exact l_z (lin [] [(1,.n 48,.n 45)] 0 (.n 1) (.n 0) rfl this.1)
 | negSucc m=>
  have e0:ar (Int.negSucc m)=45::ar ((Int.negSucc m).natAbs:Int):=ec m
  refine cV (ai (gH (aa rfl) rfl ac (.str _)) aA (.eq (.self _) (.self _) rfl rfl) ?_) (aw (eZ (aa rfl) rfl ac (.str _)) (aZ (aG (tail _ rfl ?_ rfl rfl))))
  ·rw [gK,show ((1:Int))=((1:Nat):Int) from rfl,gp,e0]; rfl
  ·show some (V.str (slice (ar (Int.negSucc m)) (iM _ (some ((1:Nat):Int))) (iU _ none)))=_
   rw [gv,e0]; rfl
end
end
noncomputable section
open PySem
section
variable {C:Cx} {k:Nat} {H:List HO} {b:Nat} {ts:Ts}
theorem kX (ts us ws:Ts):eG ts (us++ws)=eG (eG ts us) ws:=by rw [eG,eG,eG,List.foldl_append]
theorem pL (b:Nat):(cF b).take 6=[98,111,117,110,100,32]:=rfl
theorem pN (b:Nat):(cF b).drop 6=ar (b:Int):=rfl
theorem rx (b:Nat) (ts:Ts) {l:Nat} (h:l < (ae b ts).length):((ae b ts).take (l+1)).flatMap (·.2)=((ae b ts).take l).flatMap (·.2)++(ae b ts)[l].2:=by
 rw [List.take_succ_eq_append_getElem h,List.flatMap_append,List.flatMap_singleton]
theorem stAt2 {b:Int}:bT (H++[stA b ts]++[HO.obj H.length]) (H.length+1) H.length b ts:=⟨wX,uM⟩
theorem zp (F:br C "read" ["text"] uu) (hz:ak H) (g:Stk b ts)
  (Gn: ∀ (H:List HO) (i:Int) (most:Nat),(ar (i.natAbs:Int)).length≤most→most≤300→Calls C k "number_of" [.str (ar i),.int most] H (.ok (.int i)) H)
  (Gi:Calls C k "Store.__init__" [.loc (H.length+1),.int b] (H++[HO.attrs []]++[HO.obj H.length]) (.ok .none) ((H++[HO.attrs []]++[HO.obj H.length]).set H.length (stA b [])))
  (Gp: ∀ (us:Ts) (n v:Int),us.length≤1000000→0≤n→n≤255→Calls C k "Store.put" [.loc (H.length+1),.int n,.int v] (H++[stA b us]++[HO.obj H.length]) (.ok (ft us n)) ((H++[stA b us]++[HO.obj H.length]).set H.length (stA b (bt us n v))))
  (Gw:Calls C k "written" [.loc (H.length+1)] (H++[stA b ts]++[HO.obj H.length]) (.ok (.str (iQ b ts))) (H++[stA b ts]++[HO.obj H.length])):
  Calls C (k+1) "read" [.str (iQ b ts)] H (.ok (.loc (H.length+1))) (H++[stA b ts]++[HO.obj H.length]):=by
 have ht:(iQ b ts).length≤16000000:=by have:=g.text; exact lin [_,_] [(1,.a (.v 0) (.v 1),.n 2000000)] 1 (.v 0) (.n 16000000) rfl this
 have r0:(eB b ts).map V.str=V.str (cF b)::((ae b ts).map lI).map .str:=rfl
 have db:(ar ((b:Int).natAbs:Int)).length≤2:=cO (m:=b) (k:=2) (by decide) (by have:=g.b64; lia)
 have i0: ∀ H:List HO,Idx H (.lst ((eB b ts).map .str)) (.int 0) (.str (cF b)):=fun H=>.seq (.lst _) (by decide) rfl
 refine bv F rfl (aw (mG (aa rfl) (.split _) (aE aA) (.split (ps:=eB b ts) ht (fun e=>nomatch e) rfl (qy b ts)) .lst) ?_)
 refine aY (ai (gH (ag (aa rfl) ac (i0 _)) rfl ac (.str _)) aA (.ne (.self _) (.self _) rfl rfl) (by rw [show ((6:Int))=((6:Nat):Int) from rfl,gp,pL,mI]; rfl)) ?_
 refine aw (ah (bG (cf (eZ (ag (aa rfl) ac (i0 _)) rfl ac (.str _)) (v':=.str (ar (b:Int))) (by rw [show ((6:Int))=((6:Nat):Int) from rfl,gv,pN])) ac) (Gn _ b 2 db (by decide))) ?_
 refine aY (mE (im ac (aa rfl) (er (Int.ofNat_le.mpr g.b1)) ac (er (Int.ofNat_le.mpr g.b64)))) ?_
 refine aw (mH (aE (aa rfl)) Gi) ?_
 have all:(ae b ts).flatMap (·.2)=((ae b ts).take (ae b ts).length).flatMap (·.2):=by rw [List.take_length]
 have cnt: ∀ l,(((ae b ts).take l).flatMap (·.2)).length≤20000:=fun l=>by
  have a1: ∀ xs:List Rm,(∀ x∈xs,x.2.length≤64)→(xs.flatMap (·.2)).length≤xs.length*64:=by
   intro xs
   induction xs with
   | nil=>exact fun _=>Nat.zero_le _
   | cons x xs ih=>
    intro h
    rw [List.flatMap_cons,List.length_append,List.length_cons,Nat.succ_mul]
    have:=h x List.mem_cons_self
    have:=ih fun s hs=>h s (List.mem_cons_of_mem _ hs)
    exact lin [_,_,_] [(1,.v 0,.n 64),(1,.v 1,.v 2)] 1 (.a (.v 0) (.v 1)) (.a (.v 2) (.n 64)) rfl (by assumption) this
  have:=a1 ((ae b ts).take l) fun x hx=>(g.room (List.mem_of_mem_take hx)).2.1
  rw [List.length_take] at this
  have:=bW b ts
  have:min l (ae b ts).length*64≤256*64:=Nat.mul_le_mul_right _ (by exact lin [_,_] [(1,.v 1,.n 256),(1,.v 0,.v 1)] 1 (.v 0) (.n 256) rfl this (Nat.min_le_right _ _))
  exact lin [_,_] [(1,.v 0,.v 1),(1,.v 1,.m 256 (.n 64))] 1 (.v 0) (.n 20000) rfl (by assumption) this
 have sl: ∀ (xs:List V),slice xs (iM xs.length (some (1:Int))) (iU xs.length none)=xs.drop 1:=fun xs=>gv xs 1
 refine eh (fun l st=>st.H=H++[stA b (eG [] (((ae b ts).take l).flatMap (·.2)))]++[HO.obj H.length]∧st.s "store" =some (.loc (H.length+1))∧st.s "text" =some (.str (iQ b ts)))
  (eZ (aa rfl) rfl ac (.seq (.lst _) .lst)) (by rw [sl,r0]; exact .lst _) ⟨by show List.set _ _ _=_; rw [oV]; rfl,rfl,rfl⟩ ?_ ?_
 ·rintro l w ⟨s,H'⟩ hw ⟨e1,e2,e3⟩ Q' hQ
  have e1:H'=_:=e1
  subst e1
  have hw:(((ae b ts).map lI).map V.str)[l]?= some w:=hw
  rw [List.map_map] at hw
  obtain ⟨hl,rfl⟩:=bL hw
  have fl:=rx b ts hl
  have cl:=cnt l
  generalize hx:(ae b ts)[l]=x at*
  have mx:x∈ae b ts:=hx▸List.getElem_mem hl
  generalize ((ae b ts).take l).flatMap (·.2)=pre at*
  obtain ⟨h1,h2,h3,h4⟩:=g.room mx
  have rl:=g.row mx
  refine aw (mG (aa rfl) (.split _) (aE aA) (.split (ps:=mY x) (Nat.le_trans rl (by decide)) (fun e=>nomatch e) (qz x) (oI h4)) .lst) ?_
  refine eh (fun m st=>st.H=H++[stA b (eG [] (pre++x.2.take m))]++[HO.obj H.length]∧st.s "store" =some (.loc (H.length+1))∧st.s "text" =some (.str (iQ b ts)))
   (eZ (aa rfl) rfl ac (.seq (.lst _) .lst)) (items:=(x.2.map eg).map .str) (by rw [sl]; exact .lst _) ⟨by rw [List.take_zero,List.append_nil]; rfl,e2,e3⟩ ?_ ?_
  ·rintro m w ⟨s,H'⟩ hw ⟨q1,q2,q3⟩ Q' hQ
   have q1:H'=_:=q1
   subst q1
   rw [List.map_map] at hw
   obtain ⟨hm,rfl⟩:=bL hw
   generalize ht:x.2[m]=t at*
   have mt:t∈x.2:=ht▸List.getElem_mem hm
   obtain ⟨⟨n0,n1⟩,v0⟩:=h3 t mt
   have wl:=kv (h3 t mt)
   have d1:(ar (t.1.natAbs:Int)).length≤3:=cO (by decide) (by lia)
   have d2:(ar (t.2.natAbs:Int)).length≤60:=cO (by decide) v0
   refine aw (mG (aa rfl) (.split _) (aE aA) (.split (ps:=[ar t.1,ar t.2]) (Nat.le_trans wl (by decide)) (fun e=>nomatch e) (oJ t) (pg t)) .lst) ?_
   refine aY (ai (aH (aE (aa rfl)) (.len (.seq (.lst _)))) ac cP qN) ?_
   refine aw (ah (bG (ag (aa rfl) ac (.seq (.lst _) (by decide) rfl)) ac) (Gn _ t.1 3 d1 (by decide))) ?_
   refine aY (mE (im ac (aa rfl) (er n0) ac (er n1))) ?_
   have len:(eG [] (pre++x.2.take m)).length≤1000000:=by
    have:=qY (pre++x.2.take m) []
    rw [List.length_append,List.length_take,List.length_nil] at this
    exact lin [_,_,_,m,_] [(1,.v 1,.n 20000),(1,.v 2,.n 64),(1,.a (.v 3) (.n 1),.v 2),(1,.v 0,.a (.n 0) (.a (.v 1) (.v 4))),(1,.v 4,.v 3)] 1 (.v 0) (.n 1000000) rfl cl h2 hm this (Nat.min_le_left _ _)
   refine fq (bH (aa (by exact q2)) stAt2.at rfl (bG (aa rfl) (ah (bG (ag (aa rfl) ac (.seq (.lst _) (by decide) rfl)) ac) (Gn _ t.2 60 d2 (by decide)))) (Gp _ t.1 t.2 len n0 n1)) (aZ (hQ _ (by
    refine ⟨?_,q2,q3⟩
    show List.set _ _ _=_
    rw [oV,List.take_succ_eq_append_getElem hm,ht,← List.append_assoc,kX _ (pre++x.2.take m) [t]]; rfl)).1)
  ·rintro ⟨s,H'⟩ ⟨q1,q2,q3⟩
   have q1:H'=_:=q1
   subst q1
   refine aZ (hQ _ (by
    refine ⟨?_,q2,q3⟩
    show H++_++_=_
    rw [fl,List.length_map,List.length_map,List.take_length])).1
 ·rintro ⟨s,H'⟩ ⟨e1,e2,e3⟩
  have e4:eG [] (((ae b ts).take (List.drop 1 (V.str (cF b)::((ae b ts).map lI).map V.str)).length).flatMap (·.2))=ts:=by
   show eG [] (((ae b ts).take (((ae b ts).map lI).map V.str).length).flatMap (·.2))=ts
   rw [List.length_map,List.length_map,List.take_length]; exact pA g.ok.up
  rw [e4] at e1
  have e1:H'=_:=e1
  subst e1
  refine aY (ai (ah (aE (aa (by exact e2))) Gw) (aa (by exact e3)) (.ne (.self _) (.self _) rfl rfl) (by rw [mI]; rfl)) (aM (aa (by exact e2)) ⟨rfl,rfl⟩)
end
end
noncomputable section
open PySem
noncomputable def js:Ss:=
 (.cons (.asg "_law_frame" (.call "_law_cell_at" (.cons (.var "_law_script") (.cons (.int 1) .nil))))
 (.cons (.ite (.cmp .Eq (.bin .Mod (.var "_law_frame") (.int 2)) (.int 1)) (.cons (.ret (.bin .Mod (.bin .Mult (.bin .Sub (.bin .Add (.bin .Mult (.bin .Mod (.bin .FloorDiv (.var "_law_frame") (.int 2)) (.int 16)) (.int 16)) (.bin .Mod (.var "_law_more") (.int 16))) (.int 37)) (.int 3)) (.int 256)))
 .nil) .nil)
 (.cons (.ret (.bin .Mod (.var "_law_more") (.int 256)))
 .nil)))
noncomputable def iB:Ss:=
 (.cons (.ite (.cmp .Eq (.bin .Mod (.var "_law_cell") (.int 7)) (.int 2)) (.cons (.ret (.bin .Mod (.bin .Add (.bin .Mult (.var "_law_cell") (.int 48271)) (.var "_law_k")) (.bin .Pow (.int 10) (.int 60))))
 .nil) .nil)
 (.cons (.ite (.cmp .Eq (.bin .Mod (.var "_law_cell") (.int 7)) (.int 3)) (.cons (.ret (.bin .Sub (.int 0) (.bin .FloorDiv (.bin .Sub (.bin .Sub (.bin .Pow (.int 10) (.int 60)) (.int 1)) (.bin .Mod (.bin .FloorDiv (.var "_law_cell") (.int 7)) (.bin .Pow (.int 10) (.int 20)))) (.bin .Add (.int 1) (.bin .Mod (.bin .FloorDiv (.var "_law_cell") (.int 7)) (.int 3))))))
 .nil) .nil)
 (.cons (.ret (.bin .Sub (.bin .Mod (.bin .Add (.bin .FloorDiv (.var "_law_cell") (.int 7)) (.bin .Mult (.int 13) (.var "_law_k"))) (.int 2003)) (.int 1001)))
 .nil)))
noncomputable def iI:Ss:=
 (.cons (.ite (.cmp .Eq (.bin .Mod (.var "_law_cell") (.int 4)) (.int 1)) (.cons (.ret (.bin .Add (.int 1) (.bin .Mod (.bin .FloorDiv (.var "_law_cell") (.int 4)) (.int 64))))
 .nil) .nil)
 (.cons (.ret (.bin .Add (.int 1) (.bin .Mod (.bin .FloorDiv (.var "_law_cell") (.int 4)) (.int 3))))
 .nil))
noncomputable def jr:Ss:=
 (.cons (.ite (.cmp .Gt (.blt .len (.cons (.var "_law_script") .nil)) (.int 63)) (.cons (.ret (.int 98))
 .nil) .nil)
 (.cons (.ret (.int 32))
 .nil))
noncomputable def eu:Ss:=
 (.cons (.asg "_law_cell" (.idx (.var "_law_script") (.var "_law_k")))
 (.cons (.asg "_law_more" (.bin .FloorDiv (.var "_law_cell") (.int 16)))
 (.cons (.ite (.cmp .Lt (.bin .Mod (.var "_law_cell") (.int 16)) (.int 9)) (.cons (.ret (.list (.cons (.tup (.cons (.str [112,117,116]) (.cons (.call "_law_name" (.cons (.var "_law_script") (.cons (.var "_law_more") .nil))) (.cons (.call "_law_value" (.cons (.var "_law_cell") (.cons (.var "_law_k") .nil))) .nil)))) .nil)))
 .nil) .nil)
 (.cons (.ite (.and (.cons (.cmp .Lt (.bin .Mod (.var "_law_cell") (.int 16)) (.int 13)) (.cons (.cmp .NotEq (.var "_law_known") (.list .nil)) (.cons (.cmp .Gt (.bin .Mod (.var "_law_cell") (.int 3)) (.int 0)) .nil)))) (.cons (.ret (.list (.cons (.tup (.cons (.str [116,97,107,101]) (.cons (.idx (.var "_law_known") (.bin .Mod (.var "_law_more") (.blt .len (.cons (.var "_law_known") .nil)))) (.cons (.int 0) .nil)))) .nil)))
 .nil) .nil)
 (.cons (.ite (.cmp .Lt (.bin .Mod (.var "_law_cell") (.int 16)) (.int 13)) (.cons (.ret (.list (.cons (.tup (.cons (.str [116,97,107,101]) (.cons (.call "_law_name" (.cons (.var "_law_script") (.cons (.var "_law_more") .nil))) (.cons (.int 0) .nil)))) .nil)))
 .nil) .nil)
 (.cons (.asg "_law_kind" (.idx (.list (.cons (.str [112,117,116]) (.cons (.str [112,117,116]) (.cons (.str [116,97,107,101]) .nil)))) (.bin .Sub (.bin .Mod (.var "_law_cell") (.int 16)) (.int 13))))
 (.cons (.ret (.compX (.tup (.cons (.var "_law_kind") (.cons (.call "_law_name" (.cons (.var "_law_script") (.cons (.bin .Add (.bin .FloorDiv (.var "_law_more") (.int 7)) (.var "_law_j")) .nil))) (.cons (.call "_law_value" (.cons (.bin .Add (.var "_law_cell") (.var "_law_j")) (.cons (.var "_law_k") .nil))) .nil)))) "_law_j" (.blt .range (.cons (.bin .Mod (.var "_law_more") (.int 7)) .nil))))
 .nil)))))))
noncomputable def fV:Ss:=
 (.cons (.asg "_law_found" (.compIf (.var "_law_one") "_law_one" (.var "_law_plain") (.cmp .NotEq (.idx (.var "_law_one") (.int 0)) (.idx (.var "_law_deed") (.int 1)))))
 (.cons (.ite (.cmp .Eq (.idx (.var "_law_deed") (.int 0)) (.str [112,117,116])) (.cons (.ex (.mth .append (.var "_law_found") (.cons (.tup (.cons (.idx (.var "_law_deed") (.int 1)) (.cons (.idx (.var "_law_deed") (.int 2)) .nil))) .nil)))
 .nil) .nil)
 (.cons (.ret (.blt .sorted (.cons (.var "_law_found") .nil)))
 .nil)))
noncomputable def iG:Ss:=
 (.cons (.asg "_law_cell" (.bin .FloorDiv (.call "_law_cell_at" (.cons (.var "_law_script") (.cons (.int 1) .nil))) (.int 32)))
 (.cons (.asg "_law_many" (.idx (.list (.cons (.int 70) (.cons (.int 70) (.cons (.int 70) (.cons (.int 256) .nil))))) (.bin .Mod (.bin .FloorDiv (.var "_law_cell") (.int 8)) (.int 4))))
 (.cons (.ite (.cmp .Eq (.bin .Mod (.var "_law_cell") (.int 8)) (.int 1)) (.cons (.ret (.compX (.tup (.cons (.str [112,117,116]) (.cons (.bin .Mod (.bin .Add (.bin .FloorDiv (.var "_law_cell") (.int 32)) (.var "_law_k")) (.int 256)) (.cons (.call "_law_value" (.cons (.var "_law_cell") (.cons (.var "_law_k") .nil))) .nil)))) "_law_k" (.blt .range (.cons (.var "_law_many") .nil))))
 .nil) .nil)
 (.cons (.ret (.list .nil))
 .nil))))
noncomputable def iH:Ss:=
 (.cons (.asg "_law_deeds_here" (.call "_law_first" (.cons (.var "_law_script") .nil)))
 (.cons (.asg "_law_plain" (.blt .sorted (.cons (.compX (.tup (.cons (.idx (.var "_law_deed") (.int 1)) (.cons (.idx (.var "_law_deed") (.int 2)) .nil))) "_law_deed" (.var "_law_deeds_here")) .nil)))
 (.cons (.for_ "_law_k" (.blt .range (.cons (.int 2) (.cons (.blt .min (.cons (.blt .len (.cons (.var "_law_script") .nil)) (.cons (.bin .Sub (.call "_law_room" (.cons (.var "_law_script") .nil)) (.bin .FloorDiv (.blt .len (.cons (.var "_law_deeds_here") .nil)) (.int 12))) .nil))) .nil))) (.cons (.for_ "_law_deed" (.call "_law_deeds_by" (.cons (.var "_law_script") (.cons (.var "_law_k") (.cons (.compX (.idx (.var "_law_one") (.int 0)) "_law_one" (.var "_law_plain")) .nil)))) (.cons (.ex (.mth .append (.var "_law_deeds_here") (.cons (.var "_law_deed") .nil)))
 (.cons (.asg "_law_plain" (.call "_law_behind" (.cons (.var "_law_plain") (.cons (.var "_law_deed") .nil))))
 .nil)))
 .nil))
 (.cons (.ret (.var "_law_deeds_here"))
 .nil))))
section
variable {C:Cx} {k:Nat} {H:List HO} {ns:List Int}
noncomputable def hW (ns:List Int) (more:Int):Int:=if ns.getD 1 0 % 2=1 then (ns.getD 1 0 / 2 % 16*16+more % 16 - 37)*3 % 256 else more % 256
theorem jR (ns:List Int) (more:Int):0≤hW ns more∧hW ns more≤255:=by
 unfold hW
 split
 ·exact ⟨Int.emod_nonneg _ (by decide),Int.le_of_lt_add_one (Int.emod_lt_of_pos _ (by decide))⟩
 ·exact ⟨Int.emod_nonneg _ (by decide),Int.le_of_lt_add_one (Int.emod_lt_of_pos _ (by decide))⟩
theorem zr (F:br C "_law_name" ["_law_script", "_law_more"] js) (more:Int) (Gc:Calls C k "_law_cell_at" [.lst (ns.map .int),.int (1:Nat)] H (.ok (.int (ns.getD 1 0))) H):Calls C (k+1) "_law_name" [.lst (ns.map .int),.int more] H (.ok (.int (hW ns more))) H:=by
 refine az F rfl (aw (ah (bG (aa rfl) ac) Gc) ?_)
 unfold hW
 by_cases h:ns.getD 1 0 % 2=1
 ·rw [if_pos h]
  exact cV (ai (af (aa rfl) ac (.mod (by decide))) ac bd (decide_eq_true h)) (aM (af (af (af (af (af (af (af (aa rfl) ac (.div (by decide) (by decide))) ac (.mod (by decide))) ac (.mul (.inr (by decide)))) (af (aa rfl) ac (.mod (by decide))) (.add _ _)) ac (.sub _ _)) ac (.mul (.inr (by decide)))) ac (.mod (by decide))) (bS (aB rfl trivial)))
 ·rw [if_neg h]
  exact aY (ai (af (aa rfl) ac (.mod (by decide))) ac bd (decide_eq_false h)) (aM (af (aa rfl) ac (.mod (by decide))) (aB rfl trivial))
noncomputable def cy (c k:Int):Int:=if c % 7=2 then (c*48271+k) % 10 ^ 60 else if c % 7=3 then 0 - (10 ^ 60 - 1 - c / 7 % 10 ^ 20) / (1+c / 7 % 3) else (c / 7+13*k) % 2003 - 1001
theorem gP (c k:Int):(cy c k).natAbs < 10 ^ 60:=by
 have pos:(0:Int) < 10 ^ 60:=by decide
 unfold cy
 split
 ·have h0:=Int.emod_nonneg (c*48271+k) (Int.ne_of_gt pos)
  have h1:=Int.emod_lt_of_pos (c*48271+k) pos
  lia
 ·split
  ·have q0:=Int.emod_nonneg (c / 7) (show (10 ^ 20:Int)≠0 by decide)
   have q1:=Int.emod_lt_of_pos (c / 7) (show (0:Int) < 10 ^ 20 by decide)
   have q2:=Int.emod_nonneg (c / 7) (show (3:Int)≠0 by decide)
   have a1:0≤10 ^ 60 - 1 - c / 7 % 10 ^ 20:=by lia
   have a2:(10 ^ 60 - 1 - c / 7 % 10 ^ 20) / (1+c / 7 % 3)≤10 ^ 60 - 1 - c / 7 % 10 ^ 20:=Int.ediv_le_self _ a1
   have a3:0≤(10 ^ 60 - 1 - c / 7 % 10 ^ 20) / (1+c / 7 % 3):=Int.ediv_nonneg a1 (by lia)
   generalize (10 ^ 60 - 1 - c / 7 % 10 ^ 20) / (1+c / 7 % 3)=z at a2 a3
   lia
  ·have h0:=Int.emod_nonneg (c / 7+13*k) (show (2003:Int)≠0 by decide)
   have h1:=Int.emod_lt_of_pos (c / 7+13*k) (show (0:Int) < 2003 by decide)
   lia
theorem BK (F:br C "_law_value" ["_law_cell", "_law_k"] iB) (c j:Int):Calls C (k+1) "_law_value" [.int c,.int j] H (.ok (.int (cy c j))) H:=by
 refine az F rfl ?_
 unfold cy
 have m7: ∀ n:Int,Ev (Calls C k) C.glo (.cmp .Eq (.bin .Mod (.var "_law_cell") (.int 7)) (.int n)) ⟨eN ["_law_cell", "_law_k"] [.int c,.int j],H⟩ (.bool (decide (c % 7=n))) ⟨eN ["_law_cell", "_law_k"] [.int c,.int j],H⟩:=fun n=>
  ai (af (aa rfl) ac (.mod (by decide))) ac bd rfl
 by_cases h:c % 7=2
 ·rw [if_pos h]
  exact cV (cf (m7 2) (congrArg V.bool (decide_eq_true h))) (aM (af (af (af (aa rfl) ac (.mul (.inr (by decide)))) (aa rfl) (.add _ _)) (af ac ac (.pow (by decide) (by decide) (by decide))) (.mod (by decide))) (bS (aB rfl trivial)))
 ·rw [if_neg h]
  refine aY (cf (m7 2) (congrArg V.bool (decide_eq_false h))) ?_
  by_cases h3:c % 7=3
  ·rw [if_pos h3]
   have q2:=Int.emod_nonneg (c / 7) (show (3:Int)≠0 by decide)
   have q3:=Int.emod_lt_of_pos (c / 7) (show (0:Int) < 3 by decide)
   exact cV (cf (m7 3) (congrArg V.bool (decide_eq_true h3))) (aM (af ac (af (af (af (af ac ac (.pow (by decide) (by decide) (by decide))) ac (.sub _ _)) (af (af (aa rfl) ac (.div (by decide) (by decide))) (af ac ac (.pow (by decide) (by decide) (by decide))) (.mod (by decide))) (.sub _ _))
    (af ac (af (af (aa rfl) ac (.div (by decide) (by decide))) ac (.mod (by decide))) (.add _ _)) (.div (by lia) (by lia))) (.sub _ _)) (bS (aB rfl trivial)))
  ·rw [if_neg h3]
   exact aY (cf (m7 3) (congrArg V.bool (decide_eq_false h3))) (aM (af (af (af (af (aa rfl) ac (.div (by decide) (by decide))) (af ac (aa rfl) (.mul (.inl (by decide)))) (.add _ _)) ac (.mod (by decide))) ac (.sub _ _)) (aB rfl trivial))
noncomputable def dK (c:Int):Nat:=if c % 4=1 then (1+c / 4 % 64).toNat else (1+c / 4 % 3).toNat
theorem lz (c:Int):1≤dK c∧dK c≤64:=by
 unfold dK
 split
 ·have h0:=Int.emod_nonneg (c / 4) (show (64:Int)≠0 by decide)
  have h1:=Int.emod_lt_of_pos (c / 4) (show (0:Int) < 64 by decide)
  omega
 ·have h0:=Int.emod_nonneg (c / 4) (show (3:Int)≠0 by decide)
  have h1:=Int.emod_lt_of_pos (c / 4) (show (0:Int) < 3 by decide)
  omega
theorem zt (F:br C "_law_bound" ["_law_cell"] iI) (c:Int):Calls C (k+1) "_law_bound" [.int c] H (.ok (.int (dK c))) H:=by
 refine az F rfl ?_
 by_cases h:c % 4=1
 ·refine cV (ai (af (aa rfl) ac (.mod (by decide))) ac bd (decide_eq_true h)) (aM (cf (af ac (af (af (aa rfl) ac (.div (by decide) (by decide))) ac (.mod (by decide))) (.add _ _)) (congrArg V.int ?_)) (bS (aB rfl trivial)))
  have h0:=Int.emod_nonneg (c / 4) (show (64:Int)≠0 by decide)
  rw [dK,if_pos h,Int.toNat_of_nonneg (by lia)]
 ·refine aY (ai (af (aa rfl) ac (.mod (by decide))) ac bd (decide_eq_false h)) (aM (cf (af ac (af (af (aa rfl) ac (.div (by decide) (by decide))) ac (.mod (by decide))) (.add _ _)) (congrArg V.int ?_)) (aB rfl trivial))
  have h0:=Int.emod_nonneg (c / 4) (show (3:Int)≠0 by decide)
  rw [dK,if_neg h,Int.toNat_of_nonneg (by lia)]
theorem zo (F:br C "_law_room" ["_law_script"] jr) (h:ns.length≤63):Calls C (k+1) "_law_room" [.lst (ns.map .int)] H (.ok (.int 32)) H:=
 az F rfl (aY (ai (aH (aE (aa rfl)) (.len (.seq (.lst _)))) ac (.gt _ _) (decide_eq_false (by rw [List.length_map]; lia))) (aM ac (aB rfl trivial)))
abbrev cJ:=Bool×Int×Int
noncomputable def ty (p:Bool):List Nat:=if p then [112,117,116] else [116,97,107,101]
noncomputable def dV (d:cJ):V:=.tup [.str (ty d.1),.int d.2.1,.int d.2.2]
theorem fE (n:Nat): ∀ ds:List cJ,lows n (ds.map dV)
 | []=>trivial
 | _::r=>⟨⟨trivial,trivial,trivial,trivial⟩,fE n r⟩
theorem oy {d:cJ}:Idx H (dV d) (.int 0) (.str (ty d.1)):=.tup (by decide) rfl
theorem iv {d:cJ}:Idx H (dV d) (.int 1) (.int d.2.1):=.tup (by decide) rfl
theorem mO {d:cJ}:Idx H (dV d) (.int 2) (.int d.2.2):=.tup (by decide) rfl
theorem gB (d:cJ):eqB (.str (ty d.1)) (.str [112,117,116])=d.1:=by
 rw [gK]
 cases d.1<;>decide
noncomputable def DOk (d:cJ):Prop:=(0≤d.2.1∧d.2.1≤255)∧d.2.2.natAbs < 10 ^ 60
noncomputable def bhT (ts:Ts) (d:cJ):Ts:=if d.1 then bt ts d.2.1 d.2.2 else woT ts d.2.1
theorem uD {ts:Ts} (h:Up ts) (n:Int):Up (woT ts n):=h.filter _
theorem wo_perm {ts:Ts} {n v:Int}:(bt ts n v).Perm (woT ts n++[(n,v)]):=by
 have h:=ja (ts:=woT ts n) (n:=n) (v:=v) fun t ht=>by
  have:=(List.mem_filter.mp ht).2
  simpa using this
 have e:bt (woT ts n) n v=bt ts n v:=by
  rw [bt,bt,woT,List.filter_filter,List.filter_filter]
  congr 1
  ·congr 1
   refine List.filter_congr fun t _=>?_
   by_cases q:t.1 < n
   ·rw [decide_eq_true q,decide_eq_false (by lia)]; rfl
   ·rw [decide_eq_false q]; rfl
  ·refine List.filter_congr fun t _=>?_
   by_cases q:n < t.1
   ·rw [decide_eq_true q,decide_eq_false (by lia)]; rfl
   ·rw [decide_eq_false q]; rfl
 rwa [e] at h
theorem gQ {ts:Ts} (h:Up ts):(ts.map pr).Pairwise fun a b=>leV a b=true:=by
 rw [List.pairwise_map]; exact h.imp fun q=>za q
theorem duos (ts:Ts): ∀ v∈ts.map pr,∃ i j,v=.tup [.int i,.int j]:=fun v hv=>by
 obtain ⟨t,_,rfl⟩:=List.mem_map.mp hv
 exact ⟨t.1,t.2,rfl⟩
theorem wN {ts:Ts} {d:cJ} (h:Ok ts) (hv:wP ts) (hd:DOk d):Ok (bhT ts d)∧wP (bhT ts d):=by
 have sub: ∀ t∈woT ts d.2.1,t∈ts:=fun t ht=>(List.mem_filter.mp ht).1
 unfold bhT
 cases d.1 with
 | true=>
  have pm:=wo_perm (ts:=ts) (n:=d.2.1) (v:=d.2.2)
  have mem: ∀ t∈bt ts d.2.1 d.2.2,t∈ts∨t=(d.2.1,d.2.2):=fun t ht=>(List.mem_append.mp (pm.subset ht)).imp (sub t) List.mem_singleton.mp
  exact ⟨⟨gn h.up _ _,fun t ht=>(mem t ht).elim (h.low t) fun e=>by rw [e]; exact hd.1⟩,fun t ht=>(mem t ht).elim (hv t) fun e=>by rw [e]; exact hd.2⟩
 | false=>exact ⟨⟨uD h.up _,fun t ht=>h.low t (sub t ht)⟩,fun t ht=>hv t (sub t ht)⟩
theorem jg {ts:Ts} (h:Ok ts):ts.length≤256:=by
 have key: ∀ (ts:Ts) (lo:Int),lo≤256→Up ts→(∀ t∈ts,lo≤t.1∧t.1≤255)→ts.length≤(256 - lo).toNat:=by
  intro ts
  induction ts with
  | nil=>exact fun _ _ _ _=>Nat.zero_le _
  | cons t ts ih=>
   intro lo hl hu hb
   have ht:=hb t List.mem_cons_self
   have:=ih (t.1+1) (by omega) (List.pairwise_cons.mp hu).2 fun u hu'=>⟨(List.pairwise_cons.mp hu).1 u hu',(hb u (List.mem_cons_of_mem _ hu')).2⟩
   rw [List.length_cons]; omega
 exact key ts 0 (by decide) h.up h.low
theorem oz (F:br C "_law_behind" ["_law_plain", "_law_deed"] fV) {ts:Ts} (h:Ok ts) (d:cJ):Calls C (k+1) "_law_behind" [.lst (ts.map pr),dV d] H (.ok (.lst ((bhT ts d).map pr))) H:=by
 have hl:=jg h
 have wl:(woT ts d.2.1).length≤ts.length:=List.length_filter_le _ _
 refine az F rfl (aw (aW (g:=pr) (q:=pr) (p:=fun t=>!decide (t.1=d.2.1)) (rs:=ts) (aa rfl) (.lst _) (fun t _=>ai (ag (aa rfl) ac bj) (ag (aa rfl) ac iv) cP rfl) (fun _ _ _=>aa rfl) .loc) ?_)
 cases hp:d.1 with
 | true=>
  have e:bhT ts d=bt ts d.2.1 d.2.2:=by rw [bhT,hp]; rfl
  have pm:((bhT ts d).map pr).Perm ((woT ts d.2.1).map pr++[pr (d.2.1,d.2.2)]):=by rw [e,show (woT ts d.2.1).map pr++[pr (d.2.1,d.2.2)]=(woT ts d.2.1++[(d.2.1,d.2.2)]).map pr by rw [List.map_append]; rfl]; exact wo_perm.map _
  refine cV (ai (ag (aa rfl) ac oy) aA (.eq (.self _) (.self _) rfl rfl) ((gB d).trans hp)) (fq (aN (aa rfl) ci (aE (aV (bG (ag (aa rfl) ac iv) (ag (aa rfl) ac mO)))) ci ?_) (aZ (aG ?_)))
  ·rw [List.length_map]; exact Nat.lt_of_le_of_lt (Nat.le_trans wl hl) (by decide)
  ·refine aM (bu (aE (aa rfl)) (.sorted (xs:=(woT ts d.2.1).map pr++[pr (d.2.1,d.2.2)]) (.loc ?_) (.duos ?_) ?_ pm (gQ ?_)) .lst) ⟨rfl,bK _ _,?_⟩
   ·show ((H++[_]).set H.length _)[H.length]?= _
    rw [ez]; exact ci
   ·intro v hv
    exact duos (bhT ts d) v (pm.symm.subset hv)
   ·rw [← pm.length_eq,List.length_map,e]; exact Nat.le_trans (kx _ _ _) (by exact lin [_] [(1,.v 0,.n 256)] 1 (.a (.v 0) (.n 1)) (.n 1000000) rfl hl)
   ·rw [e]; exact gn h.up _ _
   ·show ((H++[_]).set H.length _).take H.length=H
    rw [ez,List.take_left]
 | false=>
  have e:bhT ts d=woT ts d.2.1:=by rw [bhT,hp]; rfl
  refine aY (ai (ag (aa rfl) ac oy) aA (.eq (.self _) (.self _) rfl rfl) ((gB d).trans hp)) ?_
  rw [e]
  refine aM (bu (aE (aa rfl)) (.sorted (.loc ci) (.duos (duos _)) ?_ (.refl _) (gQ (uD h.up _))) .lst) ⟨rfl,bK _ _,?_⟩
  ·show ((woT ts d.2.1).map pr).length≤_
   rw [List.length_map]; exact lin [_,_] [(1,.v 1,.n 256),(1,.v 0,.v 1)] 1 (.v 0) (.n 1000000) rfl hl wl
  ·show (H++[_]).take H.length=H
   rw [List.take_left]
end
end
noncomputable section
open PySem
section
variable {C:Cx} {k:Nat} {H:List HO} {ns:List Int}
noncomputable def kQ (c:Int):Nat:=if c / 8 % 4=3 then 256 else 70
noncomputable def bF (ns:List Int):List cJ:=if ns.getD 1 0 / 32 % 8=1 then (List.range (kQ (ns.getD 1 0 / 32))).map fun j:Nat=>((true,(ns.getD 1 0 / 32 / 32+(j:Int)) % 256,cy (ns.getD 1 0 / 32) j):cJ) else []
theorem my (c:Int):kQ c≤256:=by unfold kQ; split<;>decide
theorem lg (ns:List Int):(bF ns).length≤256:=by
 unfold bF
 split
 ·rw [List.length_map,List.length_range]; exact my _
 ·exact Nat.zero_le _
theorem jX (ns:List Int): ∀ d∈bF ns,DOk d:=by
 unfold bF
 split
 ·intro d hd
  obtain ⟨j,_,rfl⟩:=List.mem_map.mp hd
  exact ⟨⟨Int.emod_nonneg _ (by decide),Int.le_of_lt_add_one (Int.emod_lt_of_pos _ (by decide))⟩,gP _ _⟩
 ·exact fun d hd=>by cases hd
theorem om (ns:List Int):(bF ns).Pairwise fun a b=>a.2.1≠b.2.1:=by
 unfold bF
 split
 ·rw [List.pairwise_map]
  refine List.Pairwise.imp_of_mem ?_ (List.pairwise_lt_range (n:=kQ (ns.getD 1 0 / 32)))
  intro a b ha hb hab e
  have:=my (ns.getD 1 0 / 32)
  have:=List.mem_range.mp ha
  have:=List.mem_range.mp hb
  simp only at e
  lia
 ·exact List.Pairwise.nil
theorem to (c:Int):([V.int 70,.int 70,.int 70,.int 256]:List V)[(c / 8 % 4).toNat]?= some (.int (kQ c)):=by
 have h0:=Int.emod_nonneg (c / 8) (show (4:Int)≠0 by decide)
 have h1:=Int.emod_lt_of_pos (c / 8) (show (0:Int) < 4 by decide)
 unfold kQ
 have cs:c / 8 % 4=0∨c / 8 % 4=1∨c / 8 % 4=2∨c / 8 % 4=3:=by lia
 rcases cs with e | e | e | e<;>rw [e]<;>rfl
theorem wH (F:br C "_law_first" ["_law_script"] iG) (Gc:Calls C k "_law_cell_at" [.lst (ns.map .int),.int (1:Nat)] H (.ok (.int (ns.getD 1 0))) H) (Gv: ∀ c j:Int,Calls C k "_law_value" [.int c,.int j] H (.ok (.int (cy c j))) H):
  Calls C (k+1) "_law_first" [.lst (ns.map .int)] H (.ok (.loc H.length)) (H++[.list ((bF ns).map dV)]):=by
 refine bv F rfl (aw (af (ah (bG (aa rfl) ac) Gc) ac (.div (by decide) (by decide))) (aw (ag (aR (gG ac (sC ac ac ac)) .lst) (af (af (aa rfl) ac (.div (by decide) (by decide))) ac (.mod (by decide))) (.seq (.lst _) (Int.emod_nonneg _ (by decide)) (to _))) ?_))
 by_cases h:ns.getD 1 0 / 32 % 8=1
 ·have e:bF ns=(List.range (kQ (ns.getD 1 0 / 32))).map fun j:Nat=>((true,(ns.getD 1 0 / 32 / 32+(j:Int)) % 256,cy (ns.getD 1 0 / 32) j):cJ):=if_pos h
  refine cV (ai (af (aa rfl) ac (.mod (by decide))) ac bd (decide_eq_true h)) (aM (cD (g:=fun j:Nat=>V.int j) (q:=fun j:Nat=>dV (true,(ns.getD 1 0 / 32 / 32+(j:Int)) % 256,cy (ns.getD 1 0 / 32) j)) (rs:=List.range (kQ (ns.getD 1 0 / 32))) (aH (aE (aa rfl)) (.range1 _)) (dF (Nat.le_trans (my _) (by decide)))
   (fun j _=>aV (sC aA (af (af (af (aa rfl) ac (.div (by decide) (by decide))) (aa rfl) (.add _ _)) ac (.mod (by decide))) (ah (bG (aa rfl) (aa rfl)) (Gv _ _)))) .loc) (bS ⟨rfl,?_⟩))
  rw [e,List.map_map]; rfl
 ·have e:bF ns=[]:=if_neg h
  rw [e]
  exact aY (ai (af (aa rfl) ac (.mod (by decide))) ac bd (decide_eq_false h)) (aM (aR aF .loc) ⟨rfl,rfl⟩)
noncomputable def byT (ns:List Int) (j:Nat) (known:List Int):List cJ:=
 if ns.getD j 0 % 16 < 9 then [(true,hW ns (ns.getD j 0 / 16),cy (ns.getD j 0) j)]
 else if ns.getD j 0 % 16 < 13∧known≠[]∧0 < ns.getD j 0 % 3 then [(false,known.getD (ns.getD j 0 / 16 % (known.length:Nat)).toNat 0,0)]
 else if ns.getD j 0 % 16 < 13 then [(false,hW ns (ns.getD j 0 / 16),0)]
 else (List.range (ns.getD j 0 / 16 % 7).toNat).map fun i:Nat=>(decide (ns.getD j 0 % 16 < 15),hW ns (ns.getD j 0 / 16 / 7+(i:Int)),cy (ns.getD j 0+i) j)
theorem ur (ns:List Int) (j:Nat) (known:List Int):(byT ns j known).length≤7:=by
 unfold byT
 split
 ·exact (by decide:1≤7)
 ·split
  ·exact (by decide:1≤7)
  ·split
   ·exact (by decide:1≤7)
   ·rw [List.length_map,List.length_range]
    have h1:=Int.emod_lt_of_pos (ns.getD j 0 / 16) (show (0:Int) < 7 by decide)
    lia
theorem uv {known:List Int} (h:known≠[]) (m:Int):(m % (known.length:Nat)).toNat < known.length:=by
 have h0:(0:Int) < (known.length:Nat):=Int.ofNat_lt.mpr (List.length_pos_iff.mpr h)
 have h1:=Int.emod_lt_of_pos m h0
 have h2:=Int.emod_nonneg m (Int.ne_of_gt h0)
 lia
theorem zy (ns:List Int) (j:Nat) {known:List Int} (hk: ∀ n∈known,0≤n∧n≤255): ∀ d∈byT ns j known,DOk d:=by
 have z:((0:Int)).natAbs < 10 ^ 60:=by decide
 unfold byT
 split
 ·intro d hd; rw [List.mem_singleton.mp hd]; exact ⟨jR _ _,gP _ _⟩
 ·split
  ·rename_i h
   intro d hd; rw [List.mem_singleton.mp hd]
   have lt:=uv h.2.1 (ns.getD j 0 / 16)
   refine ⟨hk _ ?_,z⟩
   show known.getD _ 0∈known
   rw [List.getD_eq_getElem?_getD,List.getElem?_eq_getElem lt]; exact List.getElem_mem lt
  ·split
   ·intro d hd; rw [List.mem_singleton.mp hd]; exact ⟨jR _ _,z⟩
   ·intro d hd
    obtain ⟨i,_,rfl⟩:=List.mem_map.mp hd
    exact ⟨jR _ _,gP _ _⟩
theorem tx {c:Int} (h: ¬ c % 16 < 13):([V.str [112,117,116],.str [112,117,116],.str [116,97,107,101]]:List V)[(c % 16 - 13).toNat]?= some (.str (ty (decide (c % 16 < 15)))):=by
 have h1:=Int.emod_lt_of_pos c (show (0:Int) < 16 by decide)
 have cs:c % 16=13∨c % 16=14∨c % 16=15:=by lia
 rcases cs with e | e | e<;>rw [e]<;>rfl
theorem yZ {xs:List V} (h:xs≠[]):eqB (.lst xs) (.lst [])=false:=by
 cases xs with
 | nil=>exact absurd rfl h
 | cons x xs=>rfl
theorem Eg (F:br C "_law_deeds_by" ["_law_script", "_law_k", "_law_known"] eu) {j:Nat} (hj:j < ns.length) (known:List Int) (Gn: ∀ (H:List HO) (m:Int),Calls C k "_law_name" [.lst (ns.map .int),.int m] H (.ok (.int (hW ns m))) H) (Gv: ∀ (H:List HO) (c j:Int),Calls C k "_law_value" [.int c,.int j] H (.ok (.int (cy c j))) H) (hp: ∀ n,n∈known→pl 1 (.int n)=true):
  Calls C (k+1) "_law_deeds_by" [.lst (ns.map .int),.int j,.lst (known.map .int)] H (.ok (.lst ((byT ns j known).map dV))) H:=by
 have gj: ∀ H,Idx H (.lst (ns.map .int)) (.int j) (.int (ns.getD j 0)):=fun H=>.seq (.lst _) (Int.natCast_nonneg j) (by rw [Int.toNat_natCast,List.getElem?_map,List.getD_eq_getElem?_getD,List.getElem?_eq_getElem hj]; rfl)
 have plk:pl 6 (.lst (known.map .int))=true:=by
  show (false || List.all (known.map V.int) (pl 5))=true
  rw [Bool.false_or,List.all_map,List.all_eq_true]; exact fun _ _=>rfl
 refine az F rfl (aw (ag (aa rfl) (aa rfl) (gj _)) (aw (af (aa rfl) ac (.div (by decide) (by decide))) ?_))
 unfold byT
 by_cases h9:ns.getD j 0 % 16 < 9
 ·rw [if_pos h9]
  exact cV (ai (af (aa rfl) ac (.mod (by decide))) ac (.lt _ _) (decide_eq_true h9)) (aM (aR (aE (aV (sC aA (ah (bG (aa rfl) (aa rfl)) (Gn _ _)) (ah (bG (aa rfl) (aa rfl)) (Gv _ _ _))))) .lst) (bS (aB rfl (by exact ⟨⟨trivial,trivial,trivial,trivial⟩,trivial⟩))))
 rw [if_neg h9]
 refine aY (ai (af (aa rfl) ac (.mod (by decide))) ac (.lt _ _) (decide_eq_false h9)) ?_
 by_cases h13:ns.getD j 0 % 16 < 13
 ·have t1:=decide_eq_true h13
  by_cases hk:known=[]
  ·subst hk
   rw [if_neg (fun z=>z.2.1 rfl),if_pos h13]
   refine aY (lr (km (ai (af (aa rfl) ac (.mod (by decide))) ac (.lt _ _) t1) (wO (ai (aa rfl) (aR aF .lst) (.ne (.self _) (.self _) rfl rfl) rfl)))) ?_
   exact cV (ai (af (aa rfl) ac (.mod (by decide))) ac (.lt _ _) t1) (aM (aR (aE (aV (sC aA (ah (bG (aa rfl) (aa rfl)) (Gn _ _)) ac))) .lst) (bS (aB rfl (by exact ⟨⟨trivial,trivial,trivial,trivial⟩,trivial⟩))))
  ·have ne:(!eqB (.lst (known.map .int)) (.lst []))=true:=by rw [yZ (fun e=>hk (List.map_eq_nil_iff.mp e))]; rfl
   by_cases h3:0 < ns.getD j 0 % 3
   ·rw [if_pos ⟨h13,hk,h3⟩]
    have lt:=uv hk (ns.getD j 0 / 16)
    have p0:(0:Int) < ((known.map V.int).length:Nat):=by rw [List.length_map]; exact Int.ofNat_lt.mpr (List.length_pos_iff.mpr hk)
    refine cV (lr (km (ai (af (aa rfl) ac (.mod (by decide))) ac (.lt _ _) t1) (km (ai (aa rfl) (aR aF .lst) (.ne (.self _) (.self _) plk rfl) ne) (km (ai (af (aa rfl) ac (.mod (by decide))) ac (.gt _ _) (decide_eq_true h3)) so)))) ?_
    refine aM (aR (aE (aV (sC aA (ag (aa rfl) (af (aa rfl) (aH (aE (aa rfl)) (.len (.seq (.lst _)))) (.mod p0)) (.seq (v:=.int (known.getD (ns.getD j 0 / 16 % (known.length:Nat)).toNat 0)) (.lst _) (Int.emod_nonneg _ (Int.ne_of_gt p0)) ?_)) ac))) .lst) (bS (aB rfl (by exact ⟨⟨trivial,trivial,trivial,trivial⟩,trivial⟩)))
    rw [List.length_map]
    generalize (ns.getD j 0 / 16 % (known.length:Nat)).toNat=m at lt ⊢
    rw [List.getElem?_map,List.getD_eq_getElem?_getD,List.getElem?_eq_getElem lt]; rfl
   ·rw [if_neg (fun z=>h3 z.2.2),if_pos h13]
    refine aY (lr (km (ai (af (aa rfl) ac (.mod (by decide))) ac (.lt _ _) t1) (km (ai (aa rfl) (aR aF .lst) (.ne (.self _) (.self _) plk rfl) ne) (wO (ai (af (aa rfl) ac (.mod (by decide))) ac (.gt _ _) (decide_eq_false h3)))))) ?_
    exact cV (ai (af (aa rfl) ac (.mod (by decide))) ac (.lt _ _) t1) (aM (aR (aE (aV (sC aA (ah (bG (aa rfl) (aa rfl)) (Gn _ _)) ac))) .lst) (bS (aB rfl (by exact ⟨⟨trivial,trivial,trivial,trivial⟩,trivial⟩))))
 ·have t1:=decide_eq_false h13
  have lo:lows H.length (((List.range (ns.getD j 0 / 16 % 7).toNat).map fun i:Nat=>((decide (ns.getD j 0 % 16 < 15),hW ns (ns.getD j 0 / 16 / 7+(i:Int)),cy (ns.getD j 0+i) j):cJ)).map dV):=fE _ _
  rw [if_neg (fun z=>h13 z.1),if_neg h13]
  rw [List.map_map] at lo ⊢
  refine aY (lr (wO (ai (af (aa rfl) ac (.mod (by decide))) ac (.lt _ _) t1))) (aY (ai (af (aa rfl) ac (.mod (by decide))) ac (.lt _ _) t1) ?_)
  refine aw (ag (aR (sC aA aA aA) .lst) (af (af (aa rfl) ac (.mod (by decide))) ac (.sub _ _)) (.seq (.lst _) (by lia) (tx h13))) ?_
  have m0:=Int.emod_nonneg (ns.getD j 0 / 16) (show (7:Int)≠0 by decide)
  have m1:=Int.emod_lt_of_pos (ns.getD j 0 / 16) (show (0:Int) < 7 by decide)
  refine aM (cD (g:=fun i:Nat=>V.int i) (q:=fun i:Nat=>dV (decide (ns.getD j 0 % 16 < 15),hW ns (ns.getD j 0 / 16 / 7+(i:Int)),cy (ns.getD j 0+i) j)) (rs:=List.range (ns.getD j 0 / 16 % 7).toNat)
   (cf (aH (aE (af (aa rfl) ac (.mod (by decide)))) (.range1 _)) (v':=.rng 0 ((ns.getD j 0 / 16 % 7).toNat:Nat) 1) (by rw [Int.toNat_of_nonneg m0])) (dF (by lia))
   (fun i _=>aV (sC (aa rfl) (ah (bG (aa rfl) (af (af (aa rfl) ac (.div (by decide) (by decide))) (aa rfl) (.add _ _))) (Gn _ _)) (ah (bG (af (aa rfl) (aa rfl) (.add _ _)) (aa rfl)) (Gv _ _ _)))) .lst) ⟨rfl,lo,List.take_length⟩
end
end
noncomputable section
open PySem
section
variable {C:Cx} {k:Nat} {H:List HO} {ns:List Int}
noncomputable def dP (d:cJ):Int×Int:=(d.2.1,d.2.2)
noncomputable def lS (ds:List cJ):Ts:=(ds.map dP).mergeSort fun a b=>decide (a.1≤b.1)
theorem gY (ds:List cJ):(lS ds).Perm (ds.map dP):=List.mergeSort_perm _ _
theorem qr {ds:List cJ} (h:ds.Pairwise fun a b=>a.2.1≠b.2.1):Up (lS ds):=by
 have h1:(lS ds).Pairwise fun a b=>decide (a.1≤b.1)=true:=List.pairwise_mergeSort (le:=fun a b:Int×Int=>decide (a.1≤b.1)) (fun a b c p q=>decide_eq_true (Int.le_trans (of_decide_eq_true p) (of_decide_eq_true q))) (fun a b=>by
  rcases Int.le_total a.1 b.1 with q | q
  ·rw [decide_eq_true q]; rfl
  ·rw [decide_eq_true q,Bool.or_true]) _
 have h2:(lS ds).Pairwise fun a b=>a.1≠b.1:=(gY ds).symm.pairwise (by rw [List.pairwise_map]; exact h) (fun q e=>q e.symm)
 exact (h1.and h2).imp fun q=>Int.lt_iff_le_and_ne.mpr ⟨of_decide_eq_true q.1,q.2⟩
noncomputable def iR (p:List cJ×Ts) (d:cJ):List cJ×Ts:=(p.1++[d],bhT p.2 d)
noncomputable def uG (ns:List Int) (p:List cJ×Ts) (j:Nat):List cJ×Ts:=(byT ns j (p.2.map (·.1))).foldl iR p
noncomputable def iW (ns:List Int) (i:Nat):List cJ×Ts:=(List.range i).foldl (fun p j=>uG ns p (j+2)) (bF ns,lS (bF ns))
theorem jl (ns:List Int) (i:Nat):iW ns (i+1)=uG ns (iW ns i) (i+2):=by rw [iW,List.range_succ,List.foldl_append]; rfl
noncomputable def rI (ns:List Int):Int:=min (ns.length:Nat) (32 - ((bF ns).length:Nat) / 12)
noncomputable def ow (ns:List Int):List cJ:=(iW ns (rI ns - 2).toNat).1
structure iX (p:List cJ×Ts) (m:Nat):Prop where
 ds: ∀ d∈p.1,DOk d
 ok:Ok p.2
 vals:wP p.2
 len:p.1.length≤m
theorem iX.step {p:List cJ×Ts} {m:Nat} {d:cJ} (g:iX p m) (hd:DOk d):iX (iR p d) (m+1):=by
 obtain ⟨h1,h2⟩:=wN g.ok g.vals hd
 exact ⟨fun x hx=>(List.mem_append.mp hx).elim (g.ds x) fun q=>by rw [List.mem_singleton.mp q]; exact hd,h1,h2,by show (p.1++[d]).length≤_; rw [List.length_append]; exact Nat.succ_le_succ g.len⟩
theorem iX.steps {ds:List cJ}: ∀ {p:List cJ×Ts} {m:Nat},iX p m→(∀ d∈ds,DOk d)→iX (ds.foldl iR p) (m+ds.length):=by
 induction ds with
 | nil=>exact fun g _=>g
 | cons d ds ih=>
  intro p m g h
  have:=ih (g.step (h d List.mem_cons_self)) fun x hx=>h x (List.mem_cons_of_mem _ hx)
  rw [Nat.add_assoc,Nat.add_comm 1] at this
  exact this
theorem nS {ts:Ts} (h:Ok ts): ∀ n∈ts.map (·.1),0≤n∧n≤255:=fun n hn=>by
 obtain ⟨t,ht,rfl⟩:=List.mem_map.mp hn
 exact h.low t ht
theorem iX.mono {p:List cJ×Ts} {m m':Nat} (g:iX p m) (h:m≤m'):iX p m':=⟨g.ds,g.ok,g.vals,Nat.le_trans g.len h⟩
theorem ir (ns:List Int): ∀ i,iX (iW ns i) (256+7*i)
 | 0=>by
  have sub: ∀ t∈lS (bF ns),∃ d∈bF ns,t=dP d:=fun t ht=>by
   obtain ⟨d,h1,h2⟩:=List.mem_map.mp ((gY _).subset ht)
   exact ⟨d,h1,h2.symm⟩
  exact ⟨jX ns,⟨qr (om ns),fun t ht=>by obtain ⟨d,h1,rfl⟩:=sub t ht; exact (jX ns d h1).1⟩,fun t ht=>by obtain ⟨d,h1,rfl⟩:=sub t ht; exact (jX ns d h1).2,lg ns⟩
 | i+1=>by
  have g:=ir ns i
  rw [jl]
  exact (g.steps (zy ns (i+2) (nS g.ok))).mono (by have:=ur ns (i+2) ((iW ns i).2.map (·.1)); exact lin [i,_] [(1,.v 1,.n 7)] 1 (.a (.a (.n 256) (.m 7 (.v 0))) (.v 1)) (.a (.n 256) (.m 7 (.a (.v 0) (.n 1)))) rfl this)
theorem tF (ns:List Int): ∀ d∈ow ns,DOk d:=(ir ns _).ds
theorem wK (F:br C "_law_deeds" ["_law_script"] iH) (hz:ak H) (hn:ns.length≤63)
  (Gf:Calls C k "_law_first" [.lst (ns.map .int)] H (.ok (.loc H.length)) (H++[.list ((bF ns).map dV)])) (Gr: ∀ H,Calls C k "_law_room" [.lst (ns.map .int)] H (.ok (.int 32)) H)
  (Gy: ∀ (H:List HO) (j:Nat) (known:List Int),j < ns.length→Calls C k "_law_deeds_by" [.lst (ns.map .int),.int j,.lst (known.map .int)] H (.ok (.lst ((byT ns j known).map dV))) H)
  (Gb: ∀ (H:List HO) (ts:Ts) (d:cJ),Ok ts→Calls C k "_law_behind" [.lst (ts.map pr),dV d] H (.ok (.lst ((bhT ts d).map pr))) H):
  Calls C (k+1) "_law_deeds" [.lst (ns.map .int)] H (.ok (.lst ((ow ns).map dV))) H:=by
 have fl:=lg ns
 have nz: ∀ xs,ak (H++[HO.list xs]):=fun xs=>dw hz fun _=>HO.noConfusion
 refine az F rfl (aw (eK (aE (aa rfl)) Gf) (aw (bu (aE (rG (g:=dV) (q:=fun d=>pr (dP d)) (rs:=bF ns) (aa rfl) ci fun d _=>aV (bG (ag (aa rfl) ac iv) (ag (aa rfl) ac mO))))
  (.sorted (ys:=(lS (bF ns)).map pr) (.lst _) (.duos ?_) ?_ ?_ (gQ (qr (om ns)))) .lst) ?_))
 ·intro v hv
  obtain ⟨d,_,rfl⟩:=List.mem_map.mp hv
  exact ⟨d.2.1,d.2.2,rfl⟩
 ·rw [List.length_map]; exact lin [_] [(1,.v 0,.n 256)] 1 (.v 0) (.n 1000000) rfl fl
 ·have:=(gY (bF ns)).map pr
  rw [List.map_map] at this; exact this
 have e0:((bF ns).map dV).length=(bF ns).length:=List.length_map ..
 refine eh (items:=(List.range (rI ns - 2).toNat).map fun i:Nat=>V.int ((i+2:Nat):Int)) (fun i st=>st.H=H++[.list ((iW ns i).1.map dV)]∧st.s "_law_deeds_here" =some (.loc H.length)∧st.s "_law_plain" =some (.lst ((iW ns i).2.map pr))∧st.s "_law_script" =some (.lst (ns.map .int)))
  (aH (bG ac (aH (bG (aH (aE (aa rfl)) (.len (.seq (.lst _)))) (af (ah (aE (aa rfl)) (Gr _)) (af (aH (aE (aa rfl)) (.len (.seq (.loc ci)))) ac (.div (by decide) (by decide))) (.sub _ _))) (.min2 _ _ (nz _)))) (.range2 _ _)) ?_ ⟨rfl,rfl,rfl,rfl⟩ ?_ ?_
 ·have e1:min (((ns.map V.int).length:Nat):Int) (32 - (((bF ns).map dV).length:Nat) / 12)=rI ns:=by rw [List.length_map,List.length_map]; rfl
  rw [e1]
  have hb: -1000000≤rI ns∧rI ns≤1000000:=by unfold rI; lia
  have e2:(cz 2 (rI ns) 1).map V.int=(List.range (rI ns - 2).toNat).map fun i:Nat=>V.int ((i+2:Nat):Int):=by
   rw [cz,List.map_map,show (rI ns - 2+1 - 1) / 1=rI ns - 2 by rw [Int.add_sub_cancel,Int.ediv_one]]
   refine List.map_congr_left fun i _=>?_
   show V.int (2+1*(i:Int))=_
   rw [Int.one_mul,Int.add_comm]; rfl
  rw [← e2]
  exact .rng (by decide) (by decide) hb
 ·rintro i w ⟨s,H'⟩ hw ⟨e1,e2,e3,e4⟩ Q' hQ
  have e1:H'=_:=e1
  subst e1
  obtain ⟨hi,rfl⟩:=bL hw
  rw [List.length_range] at hi
  rw [List.getElem_range] at*
  have hj:i+2 < ns.length:=by
   have:rI ns≤(ns.length:Nat):=Int.min_le_left _ _
   lia
  have g:=ir ns i
  have hi61:i≤61:=by exact lin [i,_] [(1,.v 1,.n 63),(1,.a (.a (.v 0) (.n 2)) (.n 1),.v 1)] 1 (.v 0) (.n 61) rfl hn hj
  have sx:=jl ns i
  have bo:=zy ns (i+2) (nS g.ok)
  have bl:=ur ns (i+2) ((iW ns i).2.map (·.1))
  generalize iW ns i=p at*
  rw [uG] at sx
  generalize hds:byT ns (i+2) (p.2.map (·.1))=ds at*
  refine eh (items:=ds.map dV) (fun m st=>st.H=H++[.list (((ds.take m).foldl iR p).1.map dV)]∧st.s "_law_deeds_here" =some (.loc H.length)∧st.s "_law_plain" =some (.lst (((ds.take m).foldl iR p).2.map pr))∧st.s "_law_script" =some (.lst (ns.map .int)))
   (ah (sC (aa (by exact e4)) (aa rfl) (cD (g:=pr) (q:=fun t=>V.int t.1) (rs:=p.2) (aa (by exact e3)) (.lst _) (fun t _=>ag (aa rfl) ac bj) .lst)) (by
    have:=Gy (H++[.list (p.1.map dV)]) (i+2) (p.2.map (·.1)) hj
    rw [hds,List.map_map] at this
    exact this)) (.lst _) ⟨rfl,e2,e3,e4⟩ ?_ ?_
  ·rintro m w ⟨s,H'⟩ hw ⟨q1,q2,q3,q4⟩ Q' hQ
   have q1:H'=_:=q1
   subst q1
   obtain ⟨hm,rfl⟩:=bL hw
   have gm:=g.steps (ds:=ds.take m) fun d hd=>bo d (List.mem_of_mem_take hd)
   have sx':(ds.take (m+1)).foldl iR p=iR ((ds.take m).foldl iR p) ds[m]:=by rw [List.take_succ_eq_append_getElem hm,List.foldl_append]; rfl
   generalize (ds.take m).foldl iR p=pp at*
   refine fq (aN (aa (by exact q2)) ci (aE (aa rfl)) ci ?_) (aw (ah (bG (aa (by exact q3)) (aa rfl)) (Gb _ _ _ gm.ok)) (aZ (hQ _ (by
    rw [sx']
    refine ⟨?_,q2,rfl,q4⟩
    show (H++[_]).set H.length _=_
    rw [ez,iR,List.map_append]; rfl)).1))
   rw [List.length_map]
   have:=gm.len
   have:(ds.take m).length≤ds.length:=by rw [List.length_take]; exact li [_,_,m] [([3,0],[2]),([1],[3])] [1] [2] rfl hm (Nat.min_le_left _ _)
   exact lin [_,i,_,_] [(7,.v 1,.n 61),(1,.v 2,.n 7),(1,.v 0,.a (.a (.n 256) (.m 7 (.v 1))) (.v 3)),(1,.v 3,.v 2)] 1 (.a (.v 0) (.n 1)) (.n 16000000) rfl hi61 bl (by assumption) this
  ·rintro ⟨s,H'⟩ ⟨q1,q2,q3,q4⟩
   have q1:H'=_:=q1
   subst q1
   rw [List.length_map,List.take_length] at*
   refine aZ (hQ _ (by rw [sx]; exact ⟨rfl,q2,q3,q4⟩)).1
 ·rintro ⟨s,H'⟩ ⟨e1,e2,e3,e4⟩
  have e1:H'=_:=e1
  subst e1
  rw [List.length_map,List.length_range] at*
  refine aM (rF (by exact e2) ci) ⟨rfl,fE _ _,?_⟩
  show ((H++[_]).set H.length _).take H.length=H
  rw [ez,List.take_left]
end
end
noncomputable section
open PySem
noncomputable def iy:Ss:=
 (.cons (.asg "found" (.list (.cons (.str []) .nil)))
 (.cons (.for_ "turn" (.blt .range (.cons (.var "depth") .nil)) (.cons (.asg "longer" (.list .nil))
 (.cons (.for_ "text" (.var "found") (.cons (.ex (.mth .append (.var "longer") (.cons (.bin .Add (.var "text") (.str [48])) .nil)))
 (.cons (.ex (.mth .append (.var "longer") (.cons (.bin .Add (.var "text") (.str [49])) .nil)))
 .nil)))
 (.cons (.asg "found" (.var "longer"))
 .nil))))
 (.cons (.ret (.var "found"))
 .nil)))
noncomputable def fj:Ss:=
 (.cons (.ret (.blt .max (.cons (.compX (.blt .len (.cons (.idx (.var "room") (.int 0)) .nil)) "room" (.mcall "Store.rooms" "rooms" (.var "self") .nil)) .nil)))
 .nil)
noncomputable def dj:Ss:=
 (.cons (.asg "every" (.comp (.idx (.var "room") (.int 0)) "room" (.call "rooms_for" (.cons (.attr (.var "self") "held") (.cons (.attr (.var "self") "bound") .nil)))))
 (.cons (.asg "found" (.list .nil))
 (.cons (.for_ "text" (.call "places_of" (.cons (.mcall "Store.depth" "depth" (.var "self") .nil) .nil)) (.cons (.ex (.mth .append (.var "found") (.cons (.idx (.compIf (.var "bits") "bits" (.var "every") (.mth .startswith (.var "text") (.cons (.var "bits") .nil))) (.int 0)) .nil)))
 .nil))
 (.cons (.ret (.var "found"))
 .nil))))
noncomputable def ba:Nat→List (List Nat)
 | 0=>[[]]
 | n+1=>(ba n).flatMap fun t=>[t++[48],t++[49]]
theorem jW {α β:Type} (f g:α→β): ∀ l:List α,(l.flatMap fun t=>[f t,g t]).length=2*l.length
 | []=>rfl
 | _::l=>by rw [List.flatMap_cons,List.length_append,jW f g l]; show 2+2*l.length=2*(l.length+1); exact l_a (lin [_] [] 1 (.a (.n 2) (.m 2 (.v 0))) (.m 2 (.a (.v 0) (.n 1))) rfl ) (lin [_] [] 1 (.m 2 (.a (.v 0) (.n 1))) (.a (.n 2) (.m 2 (.v 0))) rfl )
theorem cK: ∀ n,(ba n).length=2 ^ n
 | 0=>rfl
 | n+1=>by rw [ba,jW,cK n,Nat.pow_succ,Nat.mul_comm]
theorem eD: ∀ n,∀ t∈ba n,t.length=n∧∀ c∈t,c=48∨c=49
 | 0,t,h=>by rw [List.mem_singleton.mp h]; exact ⟨rfl,fun c h=>nomatch h⟩
 | n+1,t,h=>by
  obtain ⟨u,h1,h2⟩:=List.mem_flatMap.mp h
  obtain ⟨h3,h4⟩:=eD n u h1
  have key: ∀ d,d=48∨d=49→(u++[d]).length=n+1∧∀ c∈u++[d],c=48∨c=49:=fun d hd=>⟨by rw [List.length_append,h3]; rfl,fun c hc=>by
   rcases List.mem_append.mp hc with hc | hc
   ·exact h4 c hc
   ·rw [List.mem_singleton.mp hc]; exact hd⟩
  rcases List.mem_cons.mp h2 with rfl | h2
  ·exact key 48 (.inl rfl)
  ·rw [List.mem_singleton.mp h2]; exact key 49 (.inr rfl)
theorem hZ (n:Nat): ∀ ss:List (List Nat),lows n (ss.map .str)
 | []=>trivial
 | _::r=>⟨trivial,hZ n r⟩
noncomputable def bc (xs:List Rm):Nat:=xs.foldr (fun x m=>max x.1.length m) 0
theorem ke: ∀ {xs:List Rm},∀ x∈xs,x.1.length≤bc xs
 | y::xs,x,h=>by
  show _≤max y.1.length (bc xs)
  rcases List.mem_cons.mp h with rfl | h
  ·exact Nat.le_max_left _ _
  ·exact Nat.le_trans (ke x h) (Nat.le_max_right _ _)
theorem iq: ∀ {xs:List Rm},xs≠[]→∃ x∈xs,x.1.length=bc xs
 | [x],_=>⟨x,List.mem_singleton.mpr rfl,(Nat.max_zero _).symm⟩
 | x::y::xs,_=>by
  obtain ⟨z,h1,h2⟩:=iq (xs:=y::xs) (fun e=>nomatch e)
  show ∃ w∈x::y::xs,w.1.length=max x.1.length (bc (y::xs))
  by_cases h:x.1.length≤bc (y::xs)
  ·exact ⟨z,List.mem_cons_of_mem _ h1,by rw [Nat.max_eq_right h]; exact h2⟩
  ·exact ⟨x,List.mem_cons_self,by rw [Nat.max_eq_left (Nat.le_of_not_le h)]⟩
noncomputable def lA (xs:List Rm) (w:List Nat):List Nat:=((xs.filter fun x=>x.1.isPrefixOf w).head?.map (·.1)).getD []
noncomputable def dq (xs:List Rm):List (List Nat):=(ba (bc xs)).map (lA xs)
section
variable {C:Cx} {k:Nat} {H:List HO}
theorem tL (F:br C "places_of" ["depth"] iy) {d:Nat} (hd:d≤8):Calls C (k+1) "places_of" [.int d] H (.ok (.lst ((ba d).map .str))) H:=by
 refine az F rfl (aw (aR (aE aA) .lst) ?_)
 refine eh (fun i st=>(∃ L,st.H=H++L)∧st.s "found" =some (.lst ((ba i).map .str))) (aH (aE (aa rfl)) (.range1 _)) (dF (n:=d) (by exact lin [d] [(1,.v 0,.n 8)] 1 (.v 0) (.n 1000000) rfl hd)) ⟨⟨[],(List.append_nil H).symm⟩,rfl⟩ ?_ ?_
 ·rintro i w ⟨s,H'⟩ hw ⟨⟨L,e1⟩,e2⟩ Q' hQ
  have e1:H'=H++L:=e1
  obtain ⟨hi,rfl⟩:=rm hw
  refine aw (aR aF .loc) ?_
  refine eh (fun m st=>st.H=H'++[.list ((((ba i).take m).flatMap fun t=>[t++[48],t++[49]]).map .str)]∧st.s "longer" =some (.loc H'.length)) (aa (by exact e2)) (.lst _) ⟨rfl,rfl⟩ ?_ ?_
  ·rintro m w ⟨s,H''⟩ hw ⟨q1,q2⟩ Q' hQ
   have q1:H''=_:=q1
   subst q1
   obtain ⟨hm,rfl⟩:=bL hw
   have hl:=(eD i _ (List.getElem_mem hm)).1
   have p2:2 ^ i≤2 ^ 8:=Nat.pow_le_pow_right (by decide) (by exact lin [i,d] [(1,.v 1,.n 8),(1,.a (.v 0) (.n 1),.v 1)] 1 (.v 0) (.n 8) rfl hd hi)
   have pl:=cK i
   have cnt:((((ba i).take m).flatMap fun t=>[t++[48],t++[49]]).map V.str).length≤512:=by
    rw [List.length_map,jW,List.length_take]; lia
   refine fq (aN (aa (by exact q2)) ci (aE (af (aa rfl) aA (.cat ?_))) ci (Nat.lt_of_le_of_lt cnt (by decide))) ?_
   ·rw [hl]; show i+1≤_; exact lin [i,d] [(1,.v 1,.n 8),(1,.a (.v 0) (.n 1),.v 1)] 1 (.a (.v 0) (.n 1)) (.n 16000000) rfl hd hi
   have g1: ∀ xs:List V,((H'++[HO.list ((((ba i).take m).flatMap fun t=>[t++[48],t++[49]]).map .str)]).set H'.length (.list xs))[H'.length]?= some (.list xs):=fun xs=>by rw [ez]; exact ci
   refine fq (aN (aa (by exact q2)) (g1 _) (aE (af (aa rfl) aA (.cat ?_))) (g1 _) (by rw [List.length_append]; exact Nat.lt_of_le_of_lt (Nat.add_le_add_right cnt 1) (by decide))) (aZ (hQ _ (by
    refine ⟨?_,q2⟩
    show ((H'++[_]).set H'.length _).set H'.length _=_
    rw [ez,ez,List.take_succ_eq_append_getElem hm,List.flatMap_append,List.flatMap_singleton,List.map_append,List.append_assoc]; rfl)).1)
   ·rw [hl]; show i+1≤_; exact lin [i,d] [(1,.v 1,.n 8),(1,.a (.v 0) (.n 1),.v 1)] 1 (.a (.v 0) (.n 1)) (.n 16000000) rfl hd hi
  ·rintro ⟨s,H''⟩ ⟨q1,q2⟩
   have q1:H''=_:=q1
   subst q1
   refine aw (rF q2 ci) (aZ (hQ _ (by
    refine ⟨⟨L++[.dead],?_⟩,?_⟩
    ·show (H'++[_]).set H'.length .dead=_
     rw [ez,e1,List.append_assoc]
    ·show some (V.lst ((((ba i).take ((ba i).map V.str).length).flatMap fun t=>[t++[48],t++[49]]).map V.str))=_
     rw [List.length_map,List.take_length]; rfl)).1)
 ·rintro ⟨s,H'⟩ ⟨⟨L,e1⟩,e2⟩
  have e1:H'=H++L:=e1
  subst e1
  refine aM (cf (aa e2) (by rw [List.length_map,List.length_range])) ⟨rfl,hZ _ _,List.take_left ..⟩
variable {i j b:Nat} {ts:Ts}
theorem mM (g:Stk b ts):bc (ae b ts)≤8:=by
 obtain ⟨x,h1,h2⟩:=iq (xs:=ae b ts) (df 8 [] ts)
 rw [← h2]; exact (g.room h1).1
theorem wJ (F:br C "Store.depth" ["self"] fj) (hz:ak H) {b:Int} (S:bT H i j b ts) {rs:List Rm} (hn:rs≠[]) (Gr:Calls C k "Store.rooms" [.loc i] H (.ok (.lst (rs.map aD))) H):Calls C (k+1) "Store.depth" [.loc i] H (.ok (.int (bc rs:Nat))) H:=by
 obtain ⟨x,h1,h2⟩:=iq hn
 have vw:gc H (.lst (rs.map fun x=>V.int (x.1.length:Nat))) ((rs.map fun x=>(x.1.length:Int)).map .int):=by rw [List.map_map]; exact .lst _
 exact az F rfl (aM (aH (aE (cD (g:=aD) (q:=fun x=>V.int (x.1.length:Nat)) (rs:=rs) (aQ (aa rfl) S.at rfl aF Gr) (.lst _) (fun x _=>aH (aE (ag (aa rfl) ac bJ)) (.len (.str _))) .lst))
  (.max1 hz vw (List.mem_map.mpr ⟨x,h1,congrArg Int.ofNat h2⟩) fun n hn=>by obtain ⟨y,h3,rfl⟩:=List.mem_map.mp hn; exact Int.ofNat_le.mpr (ke y h3))) (aB rfl trivial))
theorem rY {rs:List Rm} {w:List Nat} (h: ∃ x∈rs,x.1 <+: w):((rs.filter fun x=>x.1.isPrefixOf w).map fun x=>V.str x.1)[(0:Int).toNat]?= some (.str (lA rs w)):=by
 obtain ⟨x,h1,h2⟩:=h
 unfold lA
 cases e:rs.filter fun x=>x.1.isPrefixOf w with
 | nil=>
  have:x∈rs.filter fun x=>x.1.isPrefixOf w:=List.mem_filter.mpr ⟨h1,List.isPrefixOf_iff_prefix.mpr h2⟩
  rw [e] at this; cases this
 | cons y r=>rfl
theorem jf {w:List Nat} (hw:w∈ba (bc (ae b ts))): ∃ x∈ae b ts,x.1 <+: w:=by
 obtain ⟨h1,h2⟩:=eD _ w hw
 exact pC 8 [] ts w List.nil_prefix h2 fun x hx=>by rw [h1]; exact ke x hx
theorem wL (F:br C "Store.board" ["self"] dj) (hz:ak H) (g:Stk b ts) (S:bT H i j b ts) (Gr:Calls C k "rooms_for" [.lst (ts.map pr),.int b] H (.ok (.lst ((ae b ts).map aD))) H)
  (Gd: ∀ H:List HO,ak H→bT H i j b ts→Calls C k "Store.depth" [.loc i] H (.ok (.int (bc (ae b ts):Nat))) H) (Gp: ∀ H:List HO,Calls C k "places_of" [.int (bc (ae b ts):Nat)] H (.ok (.lst ((ba (bc (ae b ts))).map .str))) H):
  Calls C (k+1) "Store.board" [.loc i] H (.ok (.lst ((dq (ae b ts)).map .str))) H:=by
 refine az F rfl (aw (eH (g:=aD) (q:=fun x=>V.str x.1) (rs:=ae b ts) (ah (bG (bC (aa rfl) S.at rfl) (bC (aa rfl) S.at rfl)) Gr) (.lst _) (fun x _=>ag (aa rfl) ac bJ) .lst) (aw (aR aF .loc) ?_))
 refine eh (fun m st=>st.H=H++[.list ((((ba (bc (ae b ts))).take m).map (lA (ae b ts))).map .str)]∧st.s "found" =some (.loc H.length)∧st.s "every" =some (.lst ((ae b ts).map fun x=>V.str x.1)))
  (ah (aE (aQ (aa rfl) (S.ext _).at rfl aF (Gd _ (dw hz fun _=>HO.noConfusion) (S.ext _)))) (Gp _)) (.lst _) ⟨rfl,rfl,rfl⟩ ?_ ?_
 ·rintro m w ⟨s,H'⟩ hw ⟨q1,q2,q3⟩ Q' hQ
  have q1:H'=_:=q1
  subst q1
  obtain ⟨hm,rfl⟩:=bL hw
  have p2:2 ^ bc (ae b ts)≤2 ^ 8:=Nat.pow_le_pow_right (by decide) (mM g)
  have pl:=cK (bc (ae b ts))
  refine fq (aN (aa (by exact q2)) ci (aE (ag (aW (g:=fun x:Rm=>V.str x.1) (q:=fun x=>V.str x.1) (p:=fun x=>x.1.isPrefixOf (ba (bc (ae b ts)))[m]) (rs:=ae b ts) (aa (by exact q3)) (.lst _)
   (fun x _=>ot (aa rfl) (.starts _) (aE (aa rfl)) (.starts _ _)) (fun _ _ _=>aa rfl) .lst) ac (.seq (.lst _) (by decide) (rY (jf (List.getElem_mem hm)))))) ci ?_) (aZ (hQ _ (by
    refine ⟨?_,q2,q3⟩
    show (H++[_]).set H.length _=_
    rw [ez,List.take_succ_eq_append_getElem hm,List.map_append,List.map_append]; rfl)).1)
  rw [List.length_map,List.length_map,List.length_take]; lia
 ·rintro ⟨s,H'⟩ ⟨q1,q2,q3⟩
  have q1:H'=_:=q1
  subst q1
  refine aM (cf (rF q2 ci) (by rw [List.length_map,List.take_length]; rfl)) ⟨rfl,hZ _ _,?_⟩
  show ((H++[_]).set H.length .dead).take H.length=H
  rw [ez,List.take_left]
end
theorem pd (ts:Ts):pl 6 (.lst (ts.map pr))=true:=by
 show (false || List.all (ts.map pr) (pl 5))=true
 rw [Bool.false_or,List.all_map,List.all_eq_true]; exact fun _ _=>rfl
theorem gy (xs:List Rm):pl 6 (.lst (xs.map aD))=true:=by
 show (false || List.all (xs.map aD) (pl 5))=true
 rw [Bool.false_or,List.all_map,List.all_eq_true]
 intro x _
 show (false || List.all [V.str x.1,.lst (x.2.map pr)] (pl 4))=true
 rw [Bool.false_or,List.all_cons,List.all_cons,List.all_nil,Bool.and_true]
 show (true && (false || List.all (x.2.map pr) (pl 3)))=true
 rw [Bool.true_and,Bool.false_or,List.all_map,List.all_eq_true]; exact fun _ _=>rfl
theorem jO (ss:List (List Nat)):pl 6 (.lst (ss.map .str))=true:=by
 show (false || List.all (ss.map V.str) (pl 5))=true
 rw [Bool.false_or,List.all_map,List.all_eq_true]; exact fun _ _=>rfl
mutual
theorem ck: ∀ v:V,eqB v v=true
 | .none=>rfl
 | .bool b=>beq_self_eq_true b
 | .int i=>beq_self_eq_true i
 | .str s=>mI s
 | .tup vs=>io vs
 | .lst vs=>io vs
 | .rng _ _ _=>rfl
 | .loc _=>rfl
theorem io: ∀ vs:List V,PyData.eqvAll (ew vs) (ew vs)=true
 | []=>rfl
 | v::vs=>Bool.and_eq_true_iff.mpr ⟨ck v,io vs⟩
end
end
noncomputable section
open PySem
section
variable {C:Cx} {k:Nat} {H:List HO}
theorem gU {x y:HO} {X:List HO}:(H++[x]++[y]++X)[H.length]?= some x:=by rw [List.append_assoc,List.append_assoc,List.getElem?_append_right (Nat.le_refl _),Nat.sub_self]; rfl
theorem sG {x y:HO} {X:List HO}:(H++[x]++[y]++X)[H.length+1]?= some y:=by rw [List.append_assoc,List.append_assoc,List.getElem?_append_right (Nat.le_add_right _ _),Nat.add_sub_cancel_left]; rfl
theorem xG {x y z:HO} {X:List HO}:(H++[x]++[y]++z::X)[H.length+2]?= some z:=by rw [List.append_assoc,List.append_assoc,List.getElem?_append_right (Nat.le_add_right _ _),Nat.add_sub_cancel_left]; rfl
theorem qw {x y z:HO} {X:List HO}:(H++[x]++[y]++X).set H.length z=H++[z]++[y]++X:=by rw [List.append_assoc,List.append_assoc,List.set_append_right _ _ (Nat.le_refl _),Nat.sub_self,List.append_assoc,List.append_assoc]; rfl
theorem xR {x y z:HO} {X:List HO}:(H++[x]++[y]++X).set (H.length+1) z=H++[x]++[z]++X:=by rw [List.append_assoc,List.append_assoc,List.set_append_right _ _ (Nat.le_add_right _ _),Nat.add_sub_cancel_left,List.append_assoc,List.append_assoc]; rfl
noncomputable def lvT (tg:Rm) (p:Nat) (x:Rm):V:=if x.1=tg.1 then .loc p else .lst (x.2.map pr)
noncomputable def rvT (tg:Rm) (p:Nat) (x:Rm):V:=.tup [.str x.1,lvT tg p x]
noncomputable def evT (tg:Rm) (p:Nat) (x:Rm):List Nat×V:=(x.1,lvT tg p x)
theorem kS {tg:Rm} {p:Nat} {x:Rm} (h:x.1≠tg.1):lvT tg p x=.lst (x.2.map pr):=if_neg h
theorem nN {tg:Rm} {p:Nat} {x:Rm} (h:x.1=tg.1):lvT tg p x=.loc p:=if_pos h
theorem nA {tg:Rm} {p:Nat} {x:Rm} (h:x.1≠tg.1):rvT tg p x=aD x:=by rw [rvT,kS h]; rfl
theorem sU {tg:Rm} {p:Nat} {x:Rm}:Idx H (rvT tg p x) (.int 0) (.str x.1):=.tup (by decide) rfl
theorem je {tg:Rm} {p:Nat} {x:Rm}:Idx H (rvT tg p x) (.int 1) (lvT tg p x):=.tup (by decide) rfl
theorem wq {bs:List Nat} (hl:bs.length < 8) (ts:Ts) (c:Nat):half bs.length c (at_ bs ts)=at_ (bs++[c]) ts:=by
 rw [half,at_,at_,List.filter_filter]
 refine List.filter_congr fun t _=>?_
 by_cases q:bs <+: sgn t.1
 ·rw [List.isPrefixOf_iff_prefix.mpr q,Bool.and_true,Bool.eq_iff_iff,decide_eq_true_iff,List.isPrefixOf_iff_prefix]; exact lV q hl c
 ·rw [Bool.eq_false_iff.mpr fun z=>q (List.isPrefixOf_iff_prefix.mp z),Bool.eq_false_iff.mpr fun z=>q (jN (List.isPrefixOf_iff_prefix.mp z)),Bool.and_false]
theorem rU (F:br C "parted" ["room"] ki) (x:Rm) (hb:x.1.length < 8) (ht: ∀ t∈x.2,0≤t.1∧t.1≤255) {tg:Rm} {c:Nat} (hc:c=48∨c=49) (e1:tg.1=x.1++[c]) (e2:tg.2=half x.1.length c x.2) (Gs: ∀ (H:List HO) (n:Int),0≤n→n≤255→Calls C k "signs" [.int n] H (.ok (.str (sgn n))) H):
  Calls C (k+1) "parted" [aD x] H (.ok (.tup [rvT tg H.length (x.1++[48],half x.1.length 48 x.2),rvT tg H.length (x.1++[49],half x.1.length 49 x.2)])) (H++[.list (tg.2.map pr)]):=by
 have hs: ∀ d:Nat,x.1.length+[d].length≤16000000:=fun d=>by rw [List.length_singleton]; exact Nat.le_trans (Nat.succ_le_of_lt hb) (by decide)
 have dif:x.1++[48]≠x.1++[49]:=fun e=>by cases List.append_cancel_left e
 rcases hc with rfl | rfl
 ·rw [rvT,rvT,nN e1.symm,kS (by rw [e1]; exact dif.symm),e2]
  refine bv F rfl (aw (ag (aa rfl) ac bJ) (aw (aH (aE (aa rfl)) (.len (.str _))) ?_))
  refine aw (aW (g:=pr) (q:=pr) (p:=fun t=>decide (sAt t.1 x.1.length=48)) (rs:=x.2) (ag (aa rfl) ac aL) (.lst _)
   (fun t h=>ai (ag (ah (aE (ag (aa rfl) ac bj)) (Gs _ _ (ht t h).1 (ht t h).2)) (aa rfl) (.str (Int.natCast_nonneg _) (eA _ hb))) aA (.eq (.self _) (.self _) rfl rfl) (fI _ _)) (fun _ _ _=>aa rfl) .loc) ?_
  refine aw (aW (g:=pr) (q:=pr) (p:=fun t=>decide (sAt t.1 x.1.length=49)) (rs:=x.2) (ag (aa rfl) ac aL) (.lst _)
   (fun t h=>ai (ag (ah (aE (ag (aa rfl) ac bj)) (Gs _ _ (ht t h).1 (ht t h).2)) (aa rfl) (.str (Int.natCast_nonneg _) (eA _ hb))) aA (.eq (.self _) (.self _) rfl rfl) (fI _ _)) (fun _ _ _=>aa rfl) .lst) ?_
  exact aM (aV (bG (aV (bG (af (aa rfl) aA (.cat (hs _))) (aa rfl))) (aV (bG (af (aa rfl) aA (.cat (hs _))) (aa rfl))))) ⟨rfl,rfl⟩
 ·rw [rvT,rvT,kS (by rw [e1]; exact dif),nN e1.symm,e2]
  refine bv F rfl (aw (ag (aa rfl) ac bJ) (aw (aH (aE (aa rfl)) (.len (.str _))) ?_))
  refine aw (aW (g:=pr) (q:=pr) (p:=fun t=>decide (sAt t.1 x.1.length=48)) (rs:=x.2) (ag (aa rfl) ac aL) (.lst _)
   (fun t h=>ai (ag (ah (aE (ag (aa rfl) ac bj)) (Gs _ _ (ht t h).1 (ht t h).2)) (aa rfl) (.str (Int.natCast_nonneg _) (eA _ hb))) aA (.eq (.self _) (.self _) rfl rfl) (fI _ _)) (fun _ _ _=>aa rfl) .lst) ?_
  refine aw (aW (g:=pr) (q:=pr) (p:=fun t=>decide (sAt t.1 x.1.length=49)) (rs:=x.2) (ag (aa rfl) ac aL) (.lst _)
   (fun t h=>ai (ag (ah (aE (ag (aa rfl) ac bj)) (Gs _ _ (ht t h).1 (ht t h).2)) (aa rfl) (.str (Int.natCast_nonneg _) (eA _ hb))) aA (.eq (.self _) (.self _) rfl rfl) (fI _ _)) (fun _ _ _=>aa rfl) .loc) ?_
  exact aM (aV (bG (aV (bG (af (aa rfl) aA (.cat (hs _))) (aa rfl))) (aV (bG (af (aa rfl) aA (.cat (hs _))) (aa rfl))))) ⟨rfl,rfl⟩
noncomputable def kR (tg:Rm) (B:Bool):List HO:=if B then [.list (tg.2.map pr)] else []
structure BQ (H:List HO) (b:Nat) (ts:Ts) (tg:Rm) (m:Nat) (st:St) (w fd:List Rm) (B:Bool):Prop where
 tab:st.H=H++[.list (w.map (rvT tg (H.length+2)))]++[.dictS (fd.map (evT tg (H.length+2)))]++kR tg B
 wait:st.s "waiting" =some (.loc H.length)
 found:st.s "found" =some (.loc (H.length+1))
 bnd:st.s "bound" =some (.int b)
 ok: ∀ x∈w,WOk x∧x.2=at_ x.1 ts
 all:bZ b w++fd.reverse=ae b ts
 left:fu b w=m
 no:B=false→∀ x∈w++fd,x.1≠tg.1
 yes:B=true→tg∈w++fd
theorem tu {tg:Rm} {p:Nat} {l:List Rm} (h:l.Pairwise fun x y=>x.1≠y.1) {x:Rm} (hx:x∈l):(l.map (evT tg p)).lookup x.1=some (lvT tg p x):=by
 induction l with
 | nil=>cases hx
 | cons y l ih=>
  rw [List.map_cons,cB]
  by_cases q:x.1=y.1
  ·rw [if_pos (show (x.1 == (evT tg p y).1)=true from beq_iff_eq.mpr q)]
   rcases List.mem_cons.mp hx with rfl | hx
   ·rfl
   ·exact absurd q.symm ((List.pairwise_cons.mp h).1 x hx)
  ·rw [if_neg (show ¬ (x.1 == (evT tg p y).1)=true from fun z=>q (beq_iff_eq.mp z))]
   rcases List.mem_cons.mp hx with rfl | hx
   ·exact absurd rfl q
   ·exact ih (List.pairwise_cons.mp h).2 hx
theorem vG {tg:Rm} {p:Nat} {l:List Rm} {x:Rm} (h: ∀ y∈l,y.1≠x.1):nF x.1 (lvT tg p x) (l.map (evT tg p))=(l++[x]).map (evT tg p):=by
 rw [nF,if_neg,List.map_append]; · rfl
 intro q
 obtain ⟨p,h1,h2⟩:=List.mem_map.mp q
 obtain ⟨y,h3,rfl⟩:=List.mem_map.mp h1
 exact h y h3 h2
theorem oj (b:Nat): ∀ l:List Rm,l.length≤(bZ b l).length
 | []=>Nat.le_refl _
 | y::l=>by
  rw [bZ,List.flatMap_cons,List.length_append,List.length_cons]
  have:1≤(dr b (8 - y.1.length) y.1 y.2).length:=List.length_pos_iff.mpr (df _ _ _)
  have ih:l.length≤(List.flatMap (fun x=>dr b (8 - x.1.length) x.1 x.2) l).length:=oj b l
  rw [Nat.add_comm]; exact Nat.add_le_add this ih
theorem rS (F:br C "rooms_for" ["things", "bound"] cu) (hz:ak H) {b:Nat} {ts:Ts} (g:Stk b ts) {tg:Rm} (ht:tg∈ae b ts) (h0:tg.1≠[])
  (Gp: ∀ (H:List HO) (x:Rm),x.1.length < 8→(∀ t∈x.2,0≤t.1∧t.1≤255)→Calls C k "parted" [aD x] H (.ok (.tup [aD (x.1++[48],half x.1.length 48 x.2),aD (x.1++[49],half x.1.length 49 x.2)])) H)
  (Gq: ∀ (H:List HO) (x:Rm) (c:Nat),x.1.length < 8→(∀ t∈x.2,0≤t.1∧t.1≤255)→(c=48∨c=49)→tg.1=x.1++[c]→tg.2=half x.1.length c x.2→Calls C k "parted" [aD x] H (.ok (.tup [rvT tg H.length (x.1++[48],half x.1.length 48 x.2),rvT tg H.length (x.1++[49],half x.1.length 49 x.2)])) (H++[.list (tg.2.map pr)])):
  Calls C (k+1) "rooms_for" [.lst (ts.map pr),.int b] H (.ok (.loc (H.length+3))) (H++[.list []]++[.dictS ((ae b ts).reverse.map (evT tg (H.length+2)))]++[.list (tg.2.map pr)]++[.list ((ae b ts).map (rvT tg (H.length+2)))]):=by
 have left:=la (b:=b) 8 [] ts
 have rl:=bW b ts
 have tat:tg.2=at_ tg.1 ts:=rj 8 [] ts rfl (ig _) tg ht
 have few:tg.2.length≤b:=nZ g.b1 8 [] ts rfl (ig _) g.ok tg ht
 have tbit:=(g.room ht).2.2.2
 refine bv F rfl (aw (aR (aE (aV (bG aA (bu (aE (aa rfl)) (.list (.lst _)) .lst)))) .loc) (aw kb ?_))
 refine vC (fun m st=>∃ w fd B,BQ H b ts tg m st w fd B) (fu b [([],ts)]) ⟨[([],ts)],[],false,⟨?_,rfl,?_,rfl,fun x hx=>?_,?_,rfl,fun _ x hx=>?_,fun e=>Bool.noConfusion e⟩⟩ ?_ ?_
 ·show H++[HO.list [aD ([],ts)]]++[HO.dictS []]=H++[HO.list [rvT tg (H.length+2) ([],ts)]]++[HO.dictS []]++[]
  rw [nA (x:=([],ts)) (fun e=>h0 e.symm),List.append_nil]
 ·show some (V.loc (H++[_]).length)=_
  rw [List.length_append]; rfl
 ·rw [List.mem_singleton.mp hx]; exact ⟨⟨Nat.zero_le _,ig _,g.ok⟩,(mU (ig _)).symm⟩
 ·rw [bZ,List.flatMap_singleton,List.reverse_nil,List.append_nil]; rfl
 ·rw [List.append_nil] at hx; rw [List.mem_singleton.mp hx]; exact fun e=>h0 e.symm
 ·rintro m ⟨s,H'⟩ ⟨w,fd,B,⟨e1,e2,e3,e4,e5,e6,e7,e8,e9⟩⟩
  have e1:H'=_:=e1
  subst e1
  rcases List.eq_nil_or_concat w with rfl | ⟨w,x,rfl⟩
  ·cases e7
  rw [List.concat_eq_append] at*
  have mx:x∈w++[x]:=List.mem_append.mpr (.inr (List.mem_singleton.mpr rfl))
  have px:=e5 x mx
  have pw: ∀ y∈w,WOk y∧y.2=at_ y.1 ts:=fun y hy=>e5 y (List.mem_append.mpr (.inl hy))
  have G:(H++[HO.list ((w++[x]).map (rvT tg (H.length+2)))]++[.dictS (fd.map (evT tg (H.length+2)))]++kR tg B)[H.length]?= some (.list (w.map (rvT tg (H.length+2))++[rvT tg (H.length+2) x])):=by rw [gU,List.map_append]; rfl
  refine ⟨_,ai (aH (aE (aa (by exact e2))) (.len (.seq (.loc G)))) ac (.gt _ _) (decide_eq_true (Int.ofNat_lt.mpr (by rw [List.length_append]; exact Nat.succ_pos _))),fun Q' hQ=>?_⟩
  refine aw (rE (aa (by exact e2)) G) ?_
  rw [qw]
  have vw:gc (H++[HO.list (w.map (rvT tg (H.length+2)))]++[.dictS (fd.map (evT tg (H.length+2)))]++kR tg B) (lvT tg (H.length+2) x) (x.2.map pr):=by
   by_cases q:x.1=tg.1
   ·cases B with
    | false=>exact absurd q (e8 rfl x (List.mem_append.mpr (.inl mx)))
    | true=>
     rw [nN q,px.2,q,← tat]
     exact .loc xG
   ·rw [kS q]; exact .lst _
  by_cases hl:x.2.length≤b
  ·obtain ⟨t1,t2⟩:=jb (w:=w) hl
   have fresh: ∀ y∈fd,y.1≠x.1:=fun y hy=>by
    have p:=left
    rw [show dr b 8 [] ts=ae b ts from rfl,← e6,t2] at p
    exact fun z=>((List.pairwise_append.mp p).2.2 x (List.mem_append.mpr (.inr (List.mem_singleton.mpr rfl))) y (List.mem_reverse.mpr hy)).ne z.symm
   have few:fd.length < 1000000:=by
    have:=congrArg List.length e6
    rw [List.length_append,List.length_reverse] at this
    exact Nat.lt_of_le_of_lt (Nat.le_trans (Nat.le_trans (Nat.le_add_left _ _) (Nat.le_of_eq this)) rl) (by decide)
   refine cV (ai (aH (aE (ag (aa rfl) ac je)) (.len (.seq vw))) (aa (by exact e4)) (.le _ _) (decide_eq_true (by rw [List.length_map]; exact Int.ofNat_le.mpr hl))) ?_
   refine qx (kvs:=fd.map (evT tg (H.length+2))) (ag (aa rfl) ac je) (aa (by exact e3)) (ag (aa rfl) ac sU) sG (by rw [List.length_map]; exact few) (aZ (aG (aZ ?_)))
   refine (hQ _ ⟨w,fd++[x],B,⟨?_,by exact e2,by exact e3,by exact e4,pw,?_,?_,fun z y hy=>?_,fun z=>?_⟩⟩).1
   ·show (H++[_]++[_]++_).set (H.length+1) _=_
    rw [xR,vG fresh]
   ·rw [List.reverse_append,← e6,t2,List.append_assoc]; rfl
   ·rw [t1] at e7; exact Nat.succ.inj e7
   ·refine e8 z y ?_
    rcases List.mem_append.mp hy with q | q
    ·exact List.mem_append.mpr (.inl (List.mem_append.mpr (.inl q)))
    ·rcases List.mem_append.mp q with q | q
     ·exact List.mem_append.mpr (.inr q)
     ·exact List.mem_append.mpr (.inl (List.mem_append.mpr (.inr q)))
   ·rcases List.mem_append.mp (e9 z) with q | q
    ·rcases List.mem_append.mp q with q | q
     ·exact List.mem_append.mpr (.inl q)
     ·exact List.mem_append.mpr (.inr (List.mem_append.mpr (.inr q)))
    ·exact List.mem_append.mpr (.inr (List.mem_append.mpr (.inl q)))
  ·obtain ⟨h1,h2,h3,_⟩:=px.1.split g.b1 hl
   obtain ⟨t1,t2⟩:=jc (w:=w) g.b1 px.1 hl
   have xn:x.1≠tg.1:=fun q=>hl (by rw [px.2,q,← tat]; exact few)
   rw [nA xn]
   rw [kS xn] at vw
   refine sS (ai (aH (aE (ag (aa rfl) ac aL)) (.len (.seq vw))) (aa (by exact e4)) (.le _ _) (decide_eq_false (by rw [List.length_map]; exact fun q=>hl (Int.ofNat_le.mp q)))) ?_
   have small:(w.map (rvT tg (H.length+2))).length < 1000:=by
    have:=congrArg List.length e6
    rw [List.length_append] at this
    have q:=oj b (w++[x])
    rw [List.length_append] at q
    rw [List.length_map]
    exact Nat.lt_of_le_of_lt (Nat.le_trans (Nat.le_trans (Nat.le_trans (Nat.le_add_right _ _) q) (Nat.le_trans (Nat.le_add_right _ _) (Nat.le_of_eq this))) rl) (by decide)
   have ha: ∀ c,half x.1.length c x.2=at_ (x.1++[c]) ts:=fun c=>by
    have e:=px.2
    rw [e]; exact wq h1 ts c
   have okk: ∀ y∈w++[(x.1++[48],half x.1.length 48 x.2),(x.1++[49],half x.1.length 49 x.2)],WOk y∧y.2=at_ y.1 ts:=fun y hy=>by
    rcases List.mem_append.mp hy with hy | hy
    ·exact pw y hy
    ·rcases List.mem_cons.mp hy with rfl | hy
     ·exact ⟨h2,ha 48⟩
     ·rw [List.mem_singleton.mp hy]; exact ⟨h3,ha 49⟩
   by_cases hc: ∃ c,(c=48∨c=49)∧tg.1=x.1++[c]
   ·obtain ⟨c,hc,et⟩:=hc
    have et2:tg.2=half x.1.length c x.2:=by rw [tat,et,ha]
    cases B with
    | true=>
     exfalso
     have tin:tg∈bZ b [(x.1++[48],half x.1.length 48 x.2),(x.1++[49],half x.1.length 49 x.2)]:=by
      rcases hc with rfl | rfl
      ·rw [show bZ b [(x.1++[48],half x.1.length 48 x.2),(x.1++[49],half x.1.length 49 x.2)]=dr b (8 - (x.1++[48]).length) (x.1++[48]) (half x.1.length 48 x.2)++bZ b [(x.1++[49],half x.1.length 49 x.2)] from rfl,ct (by rw [← et2]; exact few)]
       exact List.mem_append.mpr (.inl (List.mem_singleton.mpr (Prod.ext et et2)))
      ·rw [show bZ b [(x.1++[48],half x.1.length 48 x.2),(x.1++[49],half x.1.length 49 x.2)]=bZ b [(x.1++[48],half x.1.length 48 x.2)]++bZ b [(x.1++[49],half x.1.length 49 x.2)] from List.flatMap_append (xs:=[_])]
       refine List.mem_append.mpr (.inr ?_)
       rw [bZ,List.flatMap_singleton,ct (by rw [← et2]; exact few)]
       exact List.mem_singleton.mpr (Prod.ext et et2)
     have p:=left
     rw [show dr b 8 [] ts=ae b ts from rfl,← e6,t2,show bZ b (w++[(x.1++[48],half x.1.length 48 x.2),(x.1++[49],half x.1.length 49 x.2)])=bZ b w++bZ b [(x.1++[48],half x.1.length 48 x.2),(x.1++[49],half x.1.length 49 x.2)] from List.flatMap_append] at p
     rcases List.mem_append.mp (e9 rfl) with q | q
     ·rcases List.mem_append.mp q with q | q
      ·have:tg∈bZ b w:=List.mem_flatMap.mpr ⟨tg,q,by rw [ct few]; exact List.mem_singleton.mpr rfl⟩
       exact ((List.pairwise_append.mp (List.pairwise_append.mp p).1).2.2 tg this tg tin).ne rfl
      ·exact xn (by rw [List.mem_singleton.mp q])
     ·exact ((List.pairwise_append.mp p).2.2 tg (List.mem_append.mpr (.inr tin)) tg (List.mem_reverse.mpr q)).ne rfl
    | false=>
     have no:=e8 rfl
     have len:(H++[HO.list (w.map (rvT tg (H.length+2)))]++[HO.dictS (fd.map (evT tg (H.length+2)))]++kR tg false).length=H.length+2:=by
      rw [show kR tg false=[] from rfl,List.append_nil,List.length_append,List.length_append]; rfl
     have gq:=Gq (H++[HO.list (w.map (rvT tg (H.length+2)))]++[HO.dictS (fd.map (evT tg (H.length+2)))]++kR tg false) x c h1 px.1.2.2.low hc et et2
     rw [len] at gq
     rw [show H++[HO.list (w.map (rvT tg (H.length+2)))]++[HO.dictS (fd.map (evT tg (H.length+2)))]++kR tg false=H++[HO.list (w.map (rvT tg (H.length+2)))]++[HO.dictS (fd.map (evT tg (H.length+2)))] from List.append_nil _] at gq ⊢
     refine aw (eK (aE (aa rfl)) gq) ?_
     refine fq (aN (aa (by exact e2)) gU (aE (ag (aa rfl) ac (.tup (by decide) rfl))) gU (Nat.lt_trans small (by decide))) ?_
     show wSs (Calls C k) C.glo _ ⟨_,(H++[HO.list (w.map (rvT tg (H.length+2)))]++[HO.dictS (fd.map (evT tg (H.length+2)))]++_).set H.length _⟩ _ _
     rw [qw]
     refine fq (aN (aa (by exact e2)) gU (aE (ag (aa rfl) ac (.tup (by decide) rfl))) gU (by rw [List.length_append,List.length_singleton]; exact Nat.lt_trans (Nat.succ_lt_succ small) (by decide))) ?_
     show wSs (Calls C k) C.glo _ ⟨_,(H++[HO.list (w.map (rvT tg (H.length+2))++[_])]++[HO.dictS (fd.map (evT tg (H.length+2)))]++_).set H.length _⟩ _ _
     rw [qw]
     refine aZ (aG (aZ (hQ _ ⟨w++[(x.1++[48],half x.1.length 48 x.2),(x.1++[49],half x.1.length 49 x.2)],fd,true,⟨?_,by exact e2,by exact e3,by exact e4,okk,?_,?_,fun z=>Bool.noConfusion z,fun _=>?_⟩⟩).1))
     ·show H++[HO.list (w.map (rvT tg (H.length+2))++[_]++[_])]++[_]++_=_
      rw [List.append_assoc (w.map _),List.map_append]; rfl
     ·rw [← t2]; exact e6
     ·rw [t1] at e7; exact Nat.succ.inj e7
     ·refine List.mem_append.mpr (.inl (List.mem_append.mpr (.inr ?_)))
      rcases hc with rfl | rfl
      ·exact List.mem_cons.mpr (.inl (Prod.ext et et2))
      ·exact List.mem_cons.mpr (.inr (List.mem_singleton.mpr (Prod.ext et et2)))
   ·have n48:x.1++[48]≠tg.1:=fun q=>hc ⟨48,.inl rfl,q.symm⟩
    have n49:x.1++[49]≠tg.1:=fun q=>hc ⟨49,.inr rfl,q.symm⟩
    refine aw (ah (aE (aa rfl)) (Gp _ x h1 px.1.2.2.low)) ?_
    refine fq (aN (aa (by exact e2)) gU (aE (ag (aa rfl) ac (.tup (by decide) rfl))) gU (Nat.lt_trans small (by decide))) ?_
    show wSs (Calls C k) C.glo _ ⟨_,(H++[HO.list (w.map (rvT tg (H.length+2)))]++[HO.dictS (fd.map (evT tg (H.length+2)))]++_).set H.length _⟩ _ _
    rw [qw]
    refine fq (aN (aa (by exact e2)) gU (aE (ag (aa rfl) ac (.tup (by decide) rfl))) gU (by rw [List.length_append,List.length_singleton]; exact Nat.lt_trans (Nat.succ_lt_succ small) (by decide))) ?_
    show wSs (Calls C k) C.glo _ ⟨_,(H++[HO.list (w.map (rvT tg (H.length+2))++[_])]++[HO.dictS (fd.map (evT tg (H.length+2)))]++_).set H.length _⟩ _ _
    rw [qw]
    refine aZ (aG (aZ (hQ _ ⟨w++[(x.1++[48],half x.1.length 48 x.2),(x.1++[49],half x.1.length 49 x.2)],fd,B,⟨?_,by exact e2,by exact e3,by exact e4,okk,?_,?_,fun z y hy=>?_,fun z=>?_⟩⟩).1))
    ·show H++[HO.list (w.map (rvT tg (H.length+2))++[_]++[_])]++[_]++_=_
     rw [← nA (p:=H.length+2) (x:=(x.1++[48],half x.1.length 48 x.2)) n48,← nA (p:=H.length+2) (x:=(x.1++[49],half x.1.length 49 x.2)) n49,List.append_assoc (w.map _),List.map_append]; rfl
    ·rw [← t2]; exact e6
    ·rw [t1] at e7; exact Nat.succ.inj e7
    ·rcases List.mem_append.mp hy with q | q
     ·rcases List.mem_append.mp q with q | q
      ·exact e8 z y (List.mem_append.mpr (.inl (List.mem_append.mpr (.inl q))))
      ·rcases List.mem_cons.mp q with rfl | q
       ·exact n48
       ·rw [List.mem_singleton.mp q]; exact n49
     ·exact e8 z y (List.mem_append.mpr (.inr q))
    ·rcases List.mem_append.mp (e9 z) with q | q
     ·rcases List.mem_append.mp q with q | q
      ·exact List.mem_append.mpr (.inl (List.mem_append.mpr (.inl q)))
      ·exact absurd (by rw [List.mem_singleton.mp q]) xn
     ·exact List.mem_append.mpr (.inr q)
 ·rintro ⟨s,H'⟩ ⟨w,fd,B,⟨e1,e2,e3,e4,e5,e6,e7,e8,e9⟩⟩
  have e1:H'=_:=e1
  subst e1
  have hw:w=[]:=by
   cases w with
   | nil=>rfl
   | cons x w=>
    have:1≤(dr b (8 - x.1.length) x.1 x.2).length:=List.length_pos_iff.mpr (df _ _ _)
    rw [fu,List.map_cons,List.sum_cons] at e7
    exact (l_z (lin [_,_,_] [(1,.a (.v 0) (.v 1),.n 0),(2,.n 1,.v 2),(1,.m 2 (.v 2),.a (.v 0) (.n 1))] 0 (.n 1) (.n 0) rfl (l_e e7) this (l_g _ _))).elim
  subst hw
  have hfd:fd=(ae b ts).reverse:=by rw [← e6]; show fd=(([]:List Rm)++fd.reverse).reverse; rw [List.nil_append,List.reverse_reverse]
  have hB:B=true:=by
   cases B with
   | true=>rfl
   | false=>exact absurd rfl (e8 rfl tg (List.mem_append.mpr (.inr (by rw [hfd]; exact List.mem_reverse.mpr ht))))
  subst hB
  subst hfd
  refine ⟨_,ai (aH (aE (aa (by exact e2))) (.len (.seq (.loc gU)))) ac (.gt _ _) rfl,?_⟩
  have ne:(ae b ts).Pairwise fun x y=>x.1≠y.1:=left.imp fun q=>q.ne
  have lk: ∀ x∈ae b ts,((ae b ts).reverse.map (evT tg (H.length+2))).lookup x.1=some (lvT tg (H.length+2) x):=fun x hx=>tu (by rw [List.pairwise_reverse]; exact ne.imp fun q z=>q z.symm) (List.mem_reverse.mpr hx)
  have perm:((ae b ts).map fun x=>V.str x.1).Perm (((ae b ts).reverse.map (evT tg (H.length+2))).map fun p=>V.str p.1):=by
   rw [List.map_map]
   exact ((List.reverse_perm _).symm).map _
  have nz:ak (H++[HO.list (([]:List Rm).map (rvT tg (H.length+2)))]++[HO.dictS ((ae b ts).reverse.map (evT tg (H.length+2)))]++kR tg true):=dw (hV hz (fun _=>HO.noConfusion) fun _=>HO.noConfusion) fun _=>HO.noConfusion
  refine aM (cf (cD (g:=fun x:Rm=>V.str x.1) (q:=rvT tg (H.length+2)) (rs:=ae b ts) (bu (aE (bu (aE (aa (by exact e3))) (.listS nz sG) .lst))
   (.sorted (.lst _) (.txts fun v hv=>?_) ?_ perm ?_) .lst) (.lst _) (fun x hx=>aV (bG (aa rfl) (ag (aa (by exact e3)) (aa rfl) (.keyS sG (lk x hx))))) .loc) (v':=.loc (H.length+3)) ?_) ⟨rfl,rfl⟩
  ·obtain ⟨p,_,rfl⟩:=List.mem_map.mp hv; exact ⟨_,rfl⟩
  ·rw [← perm.length_eq,List.length_map]; exact Nat.le_trans rl (by decide)
  ·rw [List.pairwise_map]; exact left.imp fun q=>qV q.lt
  ·show V.loc (H++[_]++[_]++[_]).length=_
   rw [List.length_append,List.length_append,List.length_append]; rfl
end
end
noncomputable section
open PySem
noncomputable def jt:Ss:=
 (.cons (.asg "_law_plain" (.list .nil))
 (.cons (.for_ "_law_deed" (.var "_law_deeds_here") (.cons (.try_ (.cons (.ite (.cmp .Eq (.idx (.var "_law_deed") (.int 0)) (.str [112,117,116])) (.cons (.ex (.mcall "Store.put" "put" (.var "_law_store") (.cons (.idx (.var "_law_deed") (.int 1)) (.cons (.idx (.var "_law_deed") (.int 2)) .nil))))
 .nil) (.cons (.ex (.mcall "Store.take" "take" (.var "_law_store") (.cons (.idx (.var "_law_deed") (.int 1)) .nil)))
 .nil))
 .nil) "NoThing" none (.cons (.asg "_law_plain" (.compIf (.var "_law_one") "_law_one" (.var "_law_plain") (.cmp .NotEq (.idx (.var "_law_one") (.int 0)) (.idx (.var "_law_deed") (.int 1)))))
 .nil))
 (.cons (.asg "_law_plain" (.call "_law_behind" (.cons (.var "_law_plain") (.cons (.var "_law_deed") .nil))))
 .nil)))
 (.cons (.ret (.var "_law_plain"))
 .nil)))
noncomputable def iE:Ss:=
 (.cons (.asg "_law_ranked" (.comp (.tup (.cons (.bin .Mod (.bin .Mod (.bin .Mult (.idx (.var "_law_one") (.int 0)) (.bin .Add (.bin .Mult (.int 2) (.var "_law_draw")) (.int 48271))) (.int 65537)) (.int 1009)) (.cons (.var "_law_one") .nil))) "_law_one" (.var "_law_plain")))
 (.cons (.ret (.compX (.idx (.var "_law_one") (.int 1)) "_law_one" (.blt .sorted (.cons (.var "_law_ranked") .nil))))
 .nil))
section
variable {C:Cx} {k:Nat} {H:List HO}
noncomputable def cr (ts:Ts) (ds:List cJ):Ts:=ds.foldl bhT ts
theorem nG (ds:List cJ): ∀ ts:Ts,Ok ts→wP ts→(∀ d∈ds,DOk d)→Ok (cr ts ds)∧wP (cr ts ds):=by
 induction ds with
 | nil=>exact fun ts h1 h2 _=>⟨h1,h2⟩
 | cons d ds ih=>exact fun ts h1 h2 h=>ih _ (wN h1 h2 (h d List.mem_cons_self)).1 (wN h1 h2 (h d List.mem_cons_self)).2 fun x hx=>h x (List.mem_cons_of_mem _ hx)
theorem oZ (ts:Ts) {ds:List cJ} {i:Nat} (h:i < ds.length):cr ts (ds.take (i+1))=bhT (cr ts (ds.take i)) ds[i]:=by
 rw [cr,List.take_succ_eq_append_getElem h,List.foldl_append]; rfl
theorem fQ:Ok []∧wP []:=⟨⟨List.Pairwise.nil,fun t h=>by cases h⟩,fun t h=>by cases h⟩
theorem kf {st:St} {v:V} {n:Nat} {x:String} (h:st.s x=some v) (hl:low n v):(st.cut n).s x=some v:=by
 show (st.s x).bind _=_
 rw [h]; exact if_pos hl
theorem eE {j:Nat} {o:HO} (h:ak H) (ho: ∀ c,o≠.inst c):ak (H.set j o):=fun c q=>by
 rcases List.mem_or_eq_of_mem_set q with q | q
 ·exact h c q
 ·exact ho c q.symm
theorem pZ (ts:Ts) (n:Int):(ft ts n=.none∧woT ts n=ts)∨∃ v,ft ts n=.int v:=by
 unfold ft
 cases e:ts.find? fun t=>decide (t.1=n) with
 | none=>
  refine .inl ⟨rfl,List.filter_eq_self.mpr fun t ht=>?_⟩
  rw [List.find?_eq_none] at e
  have:=e t ht
  rw [Bool.not_eq_true] at this
  rw [this]; rfl
 | some t=>exact .inr ⟨_,rfl⟩
variable {i j:Nat} {b:Int} {ts:Ts}
theorem wI (F:br C "_law_fill" ["_law_store", "_law_deeds_here"] jt) (hz:ak H) (S:bT H i j b []) {ds:List cJ} (hd: ∀ d∈ds,DOk d)
  (Gp: ∀ (H:List HO) (ts:Ts) (d:cJ),bT H i j b ts→Ok ts→DOk d→Calls C k "Store.put" [.loc i,.int d.2.1,.int d.2.2] H (.ok (ft ts d.2.1)) (H.set j (stA b (bt ts d.2.1 d.2.2))))
  (Gt: ∀ (H:List HO) (ts:Ts) (d:cJ) (v:Int),bT H i j b ts→DOk d→ft ts d.2.1=.int v→Calls C k "Store.take" [.loc i,.int d.2.1] H (.ok (.int v)) (H.set j (stA b (woT ts d.2.1))))
  (Gx: ∀ (H:List HO) (ts:Ts) (d:cJ),ak H→bT H i j b ts→DOk d→ft ts d.2.1=.none→Calls C k "Store.take" [.loc i,.int d.2.1] H (.err "NoThing") H)
  (Gb: ∀ (H:List HO) (ts:Ts) (d:cJ),Ok ts→Calls C k "_law_behind" [.lst (ts.map pr),dV d] H (.ok (.lst ((bhT ts d).map pr))) H):
  Calls C (k+1) "_law_fill" [.loc i,.lst (ds.map dV)] H (.ok (.lst ((cr [] ds).map pr))) (H.set j (stA b (cr [] ds))):=by
 refine bv F rfl (aw (aR aF .lst) (eh (fun m st=>st.H=H.set j (stA b (cr [] (ds.take m)))∧st.s "_law_store" =some (.loc i)∧st.s "_law_plain" =some (.lst ((cr [] (ds.take m)).map pr))) (aa rfl) (.lst _) ⟨?_,rfl,rfl⟩ ?_ ?_))
 ·show H=H.set j (stA b [])
  have:=S.att
  rw [← (List.getElem?_eq_some_iff.mp this).2,List.set_getElem_self]
 ·rintro m w ⟨s,H'⟩ hw ⟨e1,e2,e3⟩ Q' hQ
  have e1:H'=_:=e1
  obtain ⟨hm,rfl⟩:=bL hw
  have S':bT H' i j b (cr [] (ds.take m)):=by rw [e1]; exact S.set
  have hz':ak H':=by rw [e1]; exact eE hz fun _=>HO.noConfusion
  have lt:i < H'.length:=(List.getElem?_eq_some_iff.mp S'.obj).1
  have nx:=oZ [] hm
  have ok:=nG (ds.take m) [] fQ.1 fQ.2 fun d q=>hd d (List.mem_of_mem_take q)
  have hset: ∀ x,H'.set j (stA b x)=H.set j (stA b x):=fun x=>by rw [e1,List.set_set]
  rw [nx] at hQ
  have dk:=hd _ (List.getElem_mem hm)
  generalize ds[m]=d at*
  generalize cr [] (ds.take m)=p at*
  have e2:s "_law_store" =some (.loc i):=e2
  have e3:s "_law_plain" =some (.lst (p.map pr)):=e3
  have gb:=fun H=>Gb H p d ok.1
  refine AY hz' ?_
  cases hp:d.1 with
  | true=>
   have eb:bhT p d=bt p d.2.1 d.2.2:=by rw [bhT,hp]; rfl
   exact cV (ai (ag (aa rfl) ac oy) aA (.eq (.self _) (.self _) rfl rfl) ((gB d).trans hp)) (fq (bH (aa (by exact e2)) S'.at rfl (bG (ag (aa rfl) ac iv) (ag (aa rfl) ac mO)) (Gp _ _ d S' ok.1 dk)) (aZ (aG (aZ (aG (aw (ah (bG (aa (by exact e3)) (aa rfl)) (gb _)) (aZ (hQ _ (by exact ⟨by rw [eb]; exact hset _,e2,rfl⟩)).1)))))))
  | false=>
   refine sS (ai (ag (aa rfl) ac oy) aA (.eq (.self _) (.self _) rfl rfl) ((gB d).trans hp)) ?_
   have eb:bhT p d=woT p d.2.1:=by rw [bhT,hp]; rfl
   rcases pZ p d.2.1 with ⟨h2,h3⟩ | ⟨v,h2⟩
   ·have tk:(H'++[HO.inst "NoThing"]).take H'.length=H':=List.take_left ..
    exact AZ (rD (aa (by exact e2)) S'.at rfl (aE (ag (aa rfl) ac iv)) (Gx _ _ d hz' S' dk h2)) ⟨⟨rfl,hz',rfl⟩,aw (cf (aW (g:=pr) (q:=pr) (p:=fun t=>!decide (t.1=d.2.1)) (rs:=p) (aa (by exact e3)) (.lst _) (fun t _=>ai (ag (aa rfl) ac bj) (ag (aa rfl) ac iv) cP rfl) (fun _ _ _=>aa rfl) .lst) (v':=.lst (p.map pr)) (congrArg (fun l=>V.lst (l.map pr)) h3))
     (aZ ⟨trivial,tk,aG (aw (ah (bG (aa (kf rfl (bK _ _))) (aa (kf rfl ⟨trivial,trivial,trivial,trivial⟩))) (gb _)) (aZ (hQ _ (by
      refine ⟨?_,kf (by exact e2) lt,rfl⟩
      rw [eb,h3]; exact tk.trans e1)).1))⟩)⟩
   ·exact fq (bH (aa (by exact e2)) S'.at rfl (aE (ag (aa rfl) ac iv)) (Gt _ _ d v S' dk h2)) (aZ (aG (aZ (aG (aw (ah (bG (aa (by exact e3)) (aa rfl)) (gb _)) (aZ (hQ _ (by exact ⟨by rw [eb]; exact hset _,e2,rfl⟩)).1))))))
 ·rintro ⟨s,H'⟩ ⟨e1,e2,e3⟩
  rw [List.length_map,List.take_length] at e1 e3
  exact aM (aa e3) ⟨rfl,e1⟩
noncomputable def uJ (d:Int) (t:Int×Int):V:=.tup [.int (t.1*(2*d+48271) % 65537 % 1009),pr t]
noncomputable def pn (d:Int) (ts:Ts):Ts:=ts.mergeSort fun a b=>leV (uJ d a) (uJ d b)
theorem qc (d:Int) (ts:Ts): ∀ v∈ts.map (uJ d),∃ i j k,v=.tup [.int i,.tup [.int j,.int k]]:=fun v hv=>by
 obtain ⟨t,_,rfl⟩:=List.mem_map.mp hv
 exact ⟨_,_,_,rfl⟩
theorem dY (d:Int) (ts:Ts):(pn d ts).Perm ts:=List.mergeSort_perm _ _
theorem yk (d:Int) (ts:Ts):((pn d ts).map (uJ d)).Pairwise fun a b=>leV a b=true:=by
 rw [List.pairwise_map]
 refine List.pairwise_mergeSort (fun x y z h1 h2=>?_) (fun x y=>?_) ts
 ·exact (hM (qc d [x,y,z])).tr _ List.mem_cons_self _ (List.mem_cons_of_mem _ List.mem_cons_self) _ (List.mem_cons_of_mem _ (List.mem_cons_of_mem _ List.mem_cons_self)) h1 h2
 ·rw [Bool.or_eq_true]
  exact (hM (qc d [x,y])).tot _ List.mem_cons_self _ (List.mem_cons_of_mem _ List.mem_cons_self)
theorem oU {n:Int} (h0:0≤n) (h1:n≤255):n.natAbs < 2 ^ 63:=Int.ofNat_lt.mp (by rw [Int.natAbs_of_nonneg h0]; exact Int.lt_of_le_of_lt h1 (by decide))
theorem wD (F:br C "_law_order" ["_law_plain", "_law_draw"] iE) (ho:Ok ts) (d:Int):Calls C (k+1) "_law_order" [.lst (ts.map pr),.int d] H (.ok (.lst ((pn d ts).map pr))) H:=by
 refine az F rfl (aw (eH (g:=pr) (q:=uJ d) (rs:=ts) (aa rfl) (.lst _) (fun t h=>aV (bG (af (af (af (ag (aa rfl) ac bj) (af (af ac (aa rfl) (.mul (.inl (by decide)))) ac (.add _ _)) (.mul (.inl (oU (ho.low t h).1 (ho.low t h).2)))) ac (.mod (by decide))) ac (.mod (by decide))) (aa rfl))) .lst)
  (aM (cD (g:=uJ d) (q:=pr) (rs:=pn d ts) (bu (aE (aa rfl)) (.sorted (ys:=(pn d ts).map (uJ d)) (.lst _) (.trip (qc d ts)) ?_ ((dY d ts).map _) (yk d ts)) .lst) (.lst _) (fun t _=>ag (aa rfl) ac (.tup (by decide) rfl)) .lst) (aB rfl (bK _ _))))
 rw [List.length_map]; exact Nat.le_trans (jg ho) (by decide)
theorem rR (F:br C "Store.things" ["self"] cI) (S:bT H i j b ts):Calls C (k+1) "Store.things" [.loc i] H (.ok (.loc H.length)) (H++[.list (ts.map pr)]):=
 bv F rfl (aM (bu (aE (bC (aa rfl) S.at rfl)) (.list (.lst _)) .loc) ⟨rfl,rfl⟩)
theorem tK (F:br C "Store.rooms" ["self"] dh) (S:bT H i j b ts) {u:V} {H':List HO} (Gr:Calls C k "rooms_for" [.lst (ts.map pr),.int b] H (.ok u) H'):Calls C (k+1) "Store.rooms" [.loc i] H (.ok u) H':=
 bv F rfl (aM (eK (bG (bC (aa rfl) S.at rfl) (bC (aa rfl) S.at rfl)) Gr) ⟨rfl,rfl⟩)
theorem tN {b:Nat} (F:br C "Store.board" ["self"] dj) (hz:ak H) (g:Stk b ts) (S:bT H i j b ts) (Gr:Calls C k "rooms_for" [.lst (ts.map pr),.int b] H (.ok (.lst ((ae b ts).map aD))) H)
  (Gd: ∀ H:List HO,ak H→bT H i j b ts→Calls C k "Store.depth" [.loc i] H (.ok (.int (bc (ae b ts):Nat))) H) (Gp: ∀ H:List HO,Calls C k "places_of" [.int (bc (ae b ts):Nat)] H (.ok (.lst ((ba (bc (ae b ts))).map .str))) H):
  Calls C (k+1) "Store.board" [.loc i] H (.ok (.loc H.length)) (H++[.list ((dq (ae b ts)).map .str)]):=by
 refine bv F rfl (aw (eH (g:=aD) (q:=fun x=>V.str x.1) (rs:=ae b ts) (ah (bG (bC (aa rfl) S.at rfl) (bC (aa rfl) S.at rfl)) Gr) (.lst _) (fun x _=>ag (aa rfl) ac bJ) .lst) (aw (aR aF .loc) ?_))
 refine eh (fun m st=>st.H=H++[.list ((((ba (bc (ae b ts))).take m).map (lA (ae b ts))).map .str)]∧st.s "found" =some (.loc H.length)∧st.s "every" =some (.lst ((ae b ts).map fun x=>V.str x.1)))
  (ah (aE (aQ (aa rfl) (S.ext _).at rfl aF (Gd _ (dw hz fun _=>HO.noConfusion) (S.ext _)))) (Gp _)) (.lst _) ⟨rfl,rfl,rfl⟩ ?_ ?_
 ·rintro m w ⟨s,H'⟩ hw ⟨q1,q2,q3⟩ Q' hQ
  have q1:H'=_:=q1
  subst q1
  obtain ⟨hm,rfl⟩:=bL hw
  have p2:2 ^ bc (ae b ts)≤2 ^ 8:=Nat.pow_le_pow_right (by decide) (mM g)
  have pl:=cK (bc (ae b ts))
  refine fq (aN (aa (by exact q2)) ci (aE (ag (aW (g:=fun x:Rm=>V.str x.1) (q:=fun x=>V.str x.1) (p:=fun x=>x.1.isPrefixOf (ba (bc (ae b ts)))[m]) (rs:=ae b ts) (aa (by exact q3)) (.lst _)
   (fun x _=>ot (aa rfl) (.starts _) (aE (aa rfl)) (.starts _ _)) (fun _ _ _=>aa rfl) .lst) ac (.seq (.lst _) (by decide) (rY (jf (List.getElem_mem hm)))))) ci ?_) (aZ (hQ _ (by
    refine ⟨?_,q2,q3⟩
    show (H++[_]).set H.length _=_
    rw [ez,List.take_succ_eq_append_getElem hm,List.map_append,List.map_append]; rfl)).1)
  rw [List.length_map,List.length_map,List.length_take]
  exact Nat.lt_of_le_of_lt (Nat.le_trans (Nat.min_le_right _ _) (Nat.le_trans (Nat.le_of_eq pl) p2)) (by decide)
 ·rintro ⟨s,H'⟩ ⟨q1,q2,q3⟩
  rw [List.length_map,List.take_length] at q1
  exact aM (aa q2) ⟨rfl,q1⟩
theorem rT {b:Nat} (F:br C "rooms_for" ["things", "bound"] cu) (hz:ak H) (hl:ts.length≤b):
  Calls C (k+1) "rooms_for" [.lst (ts.map pr),.int b] H (.ok (.loc (H.length+3))) (H++[.list (ts.map pr)]++[.list []]++[.dictS [([],.loc H.length)]]++[.list [.tup [.str [],.loc H.length]]]):=by
 have a1: ∀ x y z:HO,(H++[x]++[y]++[z])[H.length+1]?= some y:=fun x y z=>sG
 have l1: ∀ x:HO,(H++[x]).length=H.length+1:=fun x=>by rw [List.length_append]; rfl
 have l2: ∀ x y:HO,(H++[x]++[y]).length=H.length+2:=fun x y=>by rw [List.length_append,List.length_append]; rfl
 have l3: ∀ x y z:HO,(H++[x]++[y]++[z]).length=H.length+3:=fun x y z=>by rw [List.length_append,List.length_append,List.length_append]; rfl
 have a2: ∀ x y z:HO,(H++[x]++[y]++[z])[H.length+2]?= some z:=fun x y z=>xG
 have s2: ∀ x y z u:HO,(H++[x]++[y]++[z]).set (H.length+2) u=H++[x]++[y]++[u]:=fun x y z u=>by rw [← l2 x y,ez]
 have nz: ∀ x y z:HO,(∀ c,x≠.inst c)→(∀ c,y≠.inst c)→(∀ c,z≠.inst c)→ak (H++[x]++[y]++[z]):=fun x y z hx hy h3=>dw (hV hz hx hy) h3
 refine bv F rfl (aw (aR (aE (aV (bG aA (bu (aE (aa rfl)) (.list (.lst _)) .loc)))) .loc) (aw kb ?_))
 refine vC (fun m st=>∃ (w:List V) (fd:List (List Nat×V)),st.H=H++[.list (ts.map pr)]++[.list w]++[.dictS fd]∧st.s "waiting" =some (.loc (H.length+1))∧st.s "found" =some (.loc (H.length+2))∧st.s "bound" =some (.int b)∧((m=1∧w=[.tup [.str [],.loc H.length]]∧fd=[])∨(m=0∧w=[]∧fd=[([],.loc H.length)]))) 1 ⟨[.tup [.str [],.loc H.length]],[],⟨rfl,?_,?_,rfl,.inl ⟨rfl,rfl,rfl⟩⟩⟩ ?_ ?_
 ·exact congrArg (fun n=>some (V.loc n)) (l1 _)
 ·exact congrArg (fun n=>some (V.loc n)) (l2 _ _)
 ·rintro m ⟨s,H'⟩ ⟨w,fd,e1,e2,e3,e4,⟨em,rfl,rfl⟩ | ⟨em,_⟩⟩
  ·have e1:H'=_:=e1
   subst e1
   cases em
   refine ⟨_,ai (aH (aE (aa (by exact e2))) (.len (.seq (.loc (a1 _ _ _))))) ac (.gt _ _) rfl,fun Q' hQ=>?_⟩
   refine aw (rE (xs:=[]) (aa (by exact e2)) (a1 _ _ _)) ?_
   rw [xR]
   refine cV (ai (aH (aE (ag (aa rfl) ac (.tup (by decide) rfl))) (.len (.seq (.loc gU)))) (aa (by exact e4)) (.le _ _) (decide_eq_true (by rw [List.length_map]; exact Int.ofNat_le.mpr hl))) ?_
   refine qx (kvs:=[]) (ag (aa rfl) ac (.tup (by decide) rfl)) (aa (by exact e3)) (ag (aa rfl) ac (.tup (by decide) rfl)) (a2 _ _ _) (by decide) (aZ (aG (aZ (hQ _ ⟨[],[([],.loc H.length)],?_,by exact e2,by exact e3,by exact e4,.inr ⟨rfl,rfl,rfl⟩⟩).1)))
   exact s2 _ _ _ _
  ·cases em
 ·rintro ⟨s,H'⟩ ⟨w,fd,e1,e2,e3,e4,⟨em,_⟩ | ⟨em,rfl,rfl⟩⟩
  ·cases em
  ·have e1:H'=_:=e1
   subst e1
   refine ⟨_,ai (aH (aE (aa (by exact e2))) (.len (.seq (.loc (a1 _ _ _))))) ac (.gt _ _) rfl,?_⟩
   refine aM (cf (cD (g:=fun x:List Nat=>V.str x) (q:=fun x=>V.tup [.str x,.loc H.length]) (rs:=[[]]) (bu (aE (bu (aE (aa (by exact e3))) (.listS (nz _ _ _ (fun _=>HO.noConfusion) (fun _=>HO.noConfusion) fun _=>HO.noConfusion) (a2 _ _ _)) .lst))
    (.sorted (.lst _) (.txts fun v hv=>⟨[],List.mem_singleton.mp hv⟩) (show 1≤1000000 by decide) (.refl _) (List.pairwise_singleton _ _)) .lst) (.lst _) (fun x hx=>aV (bG (aa rfl) (ag (aa (by exact e3)) (aa rfl) (.keyS (a2 _ _ _) (by rw [List.mem_singleton.mp hx]; rfl))))) .loc) (v':=.loc (H.length+3)) ?_) ⟨rfl,rfl⟩
   exact congrArg V.loc (l3 _ _ _)
structure wU (H X:List HO) (r p:Nat) (rs:List V) (idx:Nat) (bs:List Nat) (zs:List V):Prop where
 nz: ∀ o∈X,∀ c,o≠HO.inst c
 rooms:(H++X)[r]?= some (.list rs)
 one:rs[idx]?= some (.tup [.str bs,.loc p])
 things:(H++X)[p]?= some (.list zs)
 hr:H.length≤r
 hp:H.length≤p
 ne:r≠p
 few:zs.length≤256
 len:rs.length≤256
theorem oW {b:Nat} (F:br C "rooms_for" ["things", "bound"] cu) (hz:ak H) (g:Stk b ts) {idx:Nat} (hi:idx < (ae b ts).length)
  (Gp: ∀ (H:List HO) (x:Rm),x.1.length < 8→(∀ t∈x.2,0≤t.1∧t.1≤255)→Calls C k "parted" [aD x] H (.ok (.tup [aD (x.1++[48],half x.1.length 48 x.2),aD (x.1++[49],half x.1.length 49 x.2)])) H)
  (Gq: ∀ (tg:Rm) (H:List HO) (x:Rm) (c:Nat),x.1.length < 8→(∀ t∈x.2,0≤t.1∧t.1≤255)→(c=48∨c=49)→tg.1=x.1++[c]→tg.2=half x.1.length c x.2→Calls C k "parted" [aD x] H (.ok (.tup [rvT tg H.length (x.1++[48],half x.1.length 48 x.2),rvT tg H.length (x.1++[49],half x.1.length 49 x.2)])) (H++[.list (tg.2.map pr)])):
  ∃ X r p rs bs zs,rs.length=(ae b ts).length∧wU H X r p rs idx bs zs∧Calls C (k+1) "rooms_for" [.lst (ts.map pr),.int b] H (.ok (.loc r)) (H++X):=by
 have rl:=bW b ts
 have tl:=jg g.ok
 by_cases hl:ts.length≤b
 ·have e:ae b ts=[([],ts)]:=ct hl
  rw [e] at hi
  have h0:idx=0:=Nat.lt_one_iff.mp hi
  subst h0
  refine ⟨[.list (ts.map pr)]++[.list []]++[.dictS [([],.loc H.length)]]++[.list [.tup [.str [],.loc H.length]]],H.length+3,H.length,[.tup [.str [],.loc H.length]],[],ts.map pr,by rw [e]; rfl,⟨fun o ho c=>?_,?_,rfl,?_,Nat.le_add_right _ _,Nat.le_refl _,fun z=>absurd z (Nat.ne_of_gt (Nat.lt_add_of_pos_right (by decide))),by rw [List.length_map]; exact tl,show 1≤256 by decide⟩,?_⟩
  ·rcases List.mem_cons.mp ho with rfl | ho
   ·exact HO.noConfusion
   rcases List.mem_cons.mp ho with rfl | ho
   ·exact HO.noConfusion
   rcases List.mem_cons.mp ho with rfl | ho
   ·exact HO.noConfusion
   rw [List.mem_singleton.mp ho]; exact HO.noConfusion
  ·rw [List.getElem?_append_right (Nat.le_add_right _ _),Nat.add_sub_cancel_left]; rfl
  ·rw [List.getElem?_append_right (Nat.le_refl _),Nat.sub_self]; rfl
  ·have:=rT (k:=k) F hz hl
   rw [List.append_assoc,List.append_assoc,List.append_assoc] at this
   exact this
 ·have hne: ∀ x∈ae b ts,x.1≠[]:=fun x hx e=>by
   rw [ae,ii hl] at hx
   rcases List.mem_append.mp hx with q | q
   ·have:=de _ _ _ x q
    rw [e] at this; cases List.prefix_nil.mp this
   ·have:=de _ _ _ x q
    rw [e] at this; cases List.prefix_nil.mp this
  have ht:=List.getElem_mem hi
  have few:(ae b ts)[idx].2.length≤64:=(g.room ht).2.1
  refine ⟨[.list []]++[.dictS ((ae b ts).reverse.map (evT (ae b ts)[idx] (H.length+2)))]++[.list ((ae b ts)[idx].2.map pr)]++[.list ((ae b ts).map (rvT (ae b ts)[idx] (H.length+2)))],H.length+3,H.length+2,(ae b ts).map (rvT (ae b ts)[idx] (H.length+2)),(ae b ts)[idx].1,(ae b ts)[idx].2.map pr,List.length_map ..,⟨fun o ho c=>?_,?_,?_,?_,Nat.le_add_right _ _,Nat.le_add_right _ _,fun z=>absurd (Nat.add_left_cancel z) (by decide),by rw [List.length_map]; exact Nat.le_trans few (by decide),by rw [List.length_map]; exact rl⟩,?_⟩
  ·rcases List.mem_cons.mp ho with rfl | ho
   ·exact HO.noConfusion
   rcases List.mem_cons.mp ho with rfl | ho
   ·exact HO.noConfusion
   rcases List.mem_cons.mp ho with rfl | ho
   ·exact HO.noConfusion
   rw [List.mem_singleton.mp ho]; exact HO.noConfusion
  ·rw [List.getElem?_append_right (Nat.le_add_right _ _),Nat.add_sub_cancel_left]; rfl
  ·rw [List.getElem?_map,List.getElem?_eq_getElem hi]
   exact congrArg (fun v=>some (V.tup [.str _,v])) (nN rfl)
  ·rw [List.getElem?_append_right (Nat.le_add_right _ _),Nat.add_sub_cancel_left]; rfl
  ·have:=rS (k:=k) F hz g ht (hne _ ht) Gp fun H x c=>Gq _ H x c
   rw [List.append_assoc,List.append_assoc,List.append_assoc] at this
   exact this
end
end
noncomputable section
open PySem
noncomputable def iC:Ss:=
 (.cons (.asg "_law_store" (.make (.cons (.call "_law_bound" (.cons (.call "_law_cell_at" (.cons (.var "_law_script") (.cons (.int 0) .nil))) .nil)) .nil)))
 (.cons (.asg "_law_draw" (.bin .Mod (.call "_law_cell_at" (.cons (.var "_law_script") (.cons (.int 2) .nil))) (.int 10007)))
 (.cons (.asg "_law_known" (.comp (.idx (.var "_law_one") (.int 0)) "_law_one" (.var "_law_plain")))
 (.cons (.asg "_law_more" (.comp (.bin .Mod (.bin .Add (.var "_law_draw") (.bin .Mult (.int 37) (.var "_law_k"))) (.int 256)) "_law_k" (.blt .range (.cons (.bin .Mod (.bin .FloorDiv (.var "_law_draw") (.int 256)) (.int 8)) .nil))))
 (.cons (.asg "_law_more" (.compIf (.var "_law_name_here") "_law_name_here" (.var "_law_more") (.cmp .NotIn (.var "_law_name_here") (.var "_law_known"))))
 (.cons (.for_ "_law_name_here" (.slc (.var "_law_more") .omit (.int 4)) (.cons (.ex (.mcall "Store.put" "put" (.var "_law_store") (.cons (.var "_law_name_here") (.cons (.neg (.int 1)) .nil))))
 .nil))
 (.cons (.for_ "_law_one" (.call "_law_order" (.cons (.var "_law_plain") (.cons (.var "_law_draw") .nil))) (.cons (.ex (.mcall "Store.put" "put" (.var "_law_store") (.cons (.idx (.var "_law_one") (.int 0)) (.cons (.bin .FloorDiv (.idx (.var "_law_one") (.int 1)) (.int 2)) .nil))))
 (.cons (.ex (.mcall "Store.put" "put" (.var "_law_store") (.cons (.idx (.var "_law_one") (.int 0)) (.cons (.idx (.var "_law_one") (.int 1)) .nil))))
 .nil)))
 (.cons (.for_ "_law_name_here" (.slc (.var "_law_more") (.int 4) .omit) (.cons (.ex (.mcall "Store.put" "put" (.var "_law_store") (.cons (.var "_law_name_here") (.cons (.neg (.int 2)) .nil))))
 .nil))
 (.cons (.for_ "_law_name_here" (.blt .sorted (.cons (.var "_law_more") .nil)) (.cons (.ex (.mcall "Store.take" "take" (.var "_law_store") (.cons (.var "_law_name_here") .nil)))
 .nil))
 (.cons (.ret (.var "_law_store"))
 .nil))))))))))
section
variable {C:Cx} {k:Nat} {H:List HO}
theorem mem_wo {ts:Ts} {n:Int} {t:Int×Int}:t∈woT ts n ↔ t∈ts∧t.1≠n:=by rw [woT,List.mem_filter,Bool.not_eq_true',decide_eq_false_iff_not]
theorem mem_with {ts:Ts} {n v:Int} {t:Int×Int}:t∈bt ts n v ↔ (t∈ts∧t.1≠n)∨t=(n,v):=by rw [wo_perm.mem_iff,List.mem_append,mem_wo,List.mem_singleton]
theorem jP {ts:Ts} (h:Ok ts) {n:Int} (hn:0≤n∧n≤255) (v:Int):Ok (bt ts n v):=⟨gn h.up n v,fun t ht=>(mem_with.mp ht).elim (fun q=>h.low t q.1) fun q=>by rw [q]; exact hn⟩
theorem Ba {ts:Ts} (h:Ok ts) (n:Int):Ok (woT ts n):=⟨uD h.up n,fun t ht=>h.low t (mem_wo.mp ht).1⟩
noncomputable def fx (c:Int) (ms:List Int) (s:Ts):Ts:=ms.foldl (fun s n=>bt s n c) s
noncomputable def iV (us s:Ts):Ts:=us.foldl (fun s t=>bt (bt s t.1 (t.2 / 2)) t.1 t.2) s
noncomputable def eR (ms:List Int) (s:Ts):Ts:=ms.foldl woT s
theorem eC (c:Int): ∀ (ms:List Int) (s:Ts),Ok s→(∀ n∈ms,0≤n∧n≤255)→Ok (fx c ms s)
 | [],_,h,_=>h
 | n::ms,s,h,hm=>eC c ms _ (jP h (hm n List.mem_cons_self) c) fun x hx=>hm x (List.mem_cons_of_mem _ hx)
theorem jY: ∀ (us s:Ts),Ok s→(∀ t∈us,0≤t.1∧t.1≤255)→Ok (iV us s)
 | [],_,h,_=>h
 | t::us,s,h,hm=>jY us _ (jP (jP h (hm t List.mem_cons_self) _) (hm t List.mem_cons_self) _) fun x hx=>hm x (List.mem_cons_of_mem _ hx)
theorem nk: ∀ (ms:List Int) (s:Ts),Ok s→Ok (eR ms s)
 | [],_,h=>h
 | n::ms,s,h=>nk ms _ (Ba h n)
theorem lW {c:Int}: ∀ {ms:List Int} {s:Ts} {t:Int×Int},t∈fx c ms s→t.1∈ms∨t∈s
 | [],_,_,h=>.inr h
 | n::ms,s,t,h=>by
  rcases lW (ms:=ms) h with q | q
  ·exact .inl (List.mem_cons_of_mem _ q)
  ·rcases mem_with.mp q with q | q
   ·exact .inr q.1
   ·rw [q]; exact .inl List.mem_cons_self
theorem eS {c:Int}: ∀ {ms:List Int} {s:Ts} {t:Int×Int},t∈s→t.1 ∉ ms→t∈fx c ms s
 | [],_,_,h,_=>h
 | n::ms,s,t,h,hn=>eS (ms:=ms) (mem_with.mpr (.inl ⟨h,fun e=>hn (e▸List.mem_cons_self)⟩)) fun q=>hn (List.mem_cons_of_mem _ q)
theorem jL {c:Int}: ∀ {ms:List Int} {s:Ts} {n:Int},n∈ms→∃ t∈fx c ms s,t.1=n
 | m::ms,s,n,h=>by
  by_cases q:n∈ms
  ·exact jL (ms:=ms) q
  ·rcases List.mem_cons.mp h with rfl | h
   ·exact ⟨(n,c),eS (ms:=ms) (mem_with.mpr (.inr rfl)) q,rfl⟩
   ·exact absurd h q
theorem mem_two {s:Ts} {n u v:Int} {t:Int×Int}:t∈bt (bt s n u) n v ↔ (t∈s∧t.1≠n)∨t=(n,v):=by
 rw [mem_with,mem_with]
 exact ⟨fun h=>h.imp_left fun h=>⟨h.1.elim (·.1) fun e=>absurd (by rw [e]) h.2,h.2⟩,fun h=>h.imp_left fun h=>⟨.inl h,h.2⟩⟩
theorem rA: ∀ {us s:Ts} {t:Int×Int},t∈iV us s→t∈us∨t∈s
 | [],_,_,h=>.inr h
 | u::us,s,t,h=>by
  rcases rA (us:=us) h with q | q
  ·exact .inl (List.mem_cons_of_mem _ q)
  ·rcases mem_two.mp q with q | q
   ·exact .inr q.1
   ·rw [q]; exact .inl List.mem_cons_self
theorem ik: ∀ {us s:Ts} {t:Int×Int},t∈s→(∀ u∈us,t.1≠u.1)→t∈iV us s
 | [],_,_,h,_=>h
 | u::us,s,t,h,hn=>ik (us:=us) (mem_two.mpr (.inl ⟨h,hn u List.mem_cons_self⟩)) fun x hx=>hn x (List.mem_cons_of_mem _ hx)
theorem on: ∀ {us s:Ts} {t:Int×Int},us.Pairwise (fun a b=>a.1≠b.1)→t∈us→t∈iV us s
 | u::us,s,t,hp,h=>by
  rcases List.mem_cons.mp h with rfl | h
  ·exact ik (us:=us) (mem_two.mpr (.inr rfl)) (List.pairwise_cons.mp hp).1
  ·exact on (us:=us) (List.pairwise_cons.mp hp).2 h
theorem mem_takes: ∀ {ms:List Int} {s:Ts} {t:Int×Int},t∈eR ms s ↔ t∈s∧t.1 ∉ ms
 | [],_,_=>⟨fun h=>⟨h,List.not_mem_nil⟩,(·.1)⟩
 | n::ms,s,t=>by
  rw [show eR (n::ms) s=eR ms (woT s n) from rfl,mem_takes (ms:=ms),mem_wo,List.mem_cons,not_or]
  exact ⟨fun h=>⟨h.1.1,h.1.2,h.2⟩,fun h=>⟨⟨h.1,h.2.1⟩,h.2.2⟩⟩
theorem xB {ts us:Ts} (h:Up ts) (h':Up us) (e: ∀ t,t∈ts ↔ t∈us):ts=us:=by
 have nd: ∀ {l:Ts},Up l→l.Nodup:=fun {l} q=>show l.Pairwise (·≠·) from q.imp fun {a b} (z:a.1 < b.1)=>fun (e:a=b)=>absurd z (by rw [e]; exact Int.lt_irrefl _)
 exact ((List.perm_ext_iff_of_nodup (nd h) (nd h')).mpr e).eq_of_pairwise (le:=fun a b=>a.1 < b.1) (fun a b _ _ p q=>absurd (Int.lt_trans p q) (Int.lt_irrefl _)) h h'
theorem AU {ts us:Ts} (h:Up ts) (p:us.Perm ts):us.Pairwise fun a b=>a.1≠b.1:=
 (p.pairwise_iff fun q=>Ne.symm q).mpr (h.imp fun q=>Int.ne_of_lt q)
noncomputable def pv (d:Int):List Int:=(List.range (d / 256 % 8).toNat).map fun j:Nat=>(d+37*(j:Int)) % 256
noncomputable def aP (d:Int) (ts:Ts):List Int:=(pv d).filter fun n=>!decide (n∈ts.map (·.1))
theorem wg (d:Int):(pv d).Nodup:=by
 have h8:(d / 256 % 8).toNat≤8:=Int.toNat_le.mpr (Int.le_of_lt (Int.emod_lt_of_pos _ (by decide)))
 refine List.pairwise_map.mpr (List.pairwise_iff_getElem.mpr fun i j hi hj hij=>?_)
 rw [List.length_range] at hj
 rw [List.getElem_range,List.getElem_range]
 omega
theorem jZ (d:Int) (ts:Ts): ∀ n∈aP d ts,0≤n∧n≤255:=fun n hn=>by
 obtain ⟨j,_,rfl⟩:=List.mem_map.mp (List.mem_filter.mp hn).1
 exact ⟨Int.emod_nonneg _ (by decide),Int.le_of_lt_add_one (Int.emod_lt_of_pos _ (show (0:Int) < 255+1 by decide))⟩
theorem ll (d:Int) (ts:Ts): ∀ n∈aP d ts,∀ t∈ts,t.1≠n:=fun n hn t ht e=>by
 have:=(List.mem_filter.mp hn).2
 rw [Bool.not_eq_true',decide_eq_false_iff_not] at this
 exact this (List.mem_map.mpr ⟨t,ht,e⟩)
noncomputable def ij (d:Int) (ts:Ts):Ts:=fx (-2) ((aP d ts).drop 4) (iV (pn d ts) (fx (-1) ((aP d ts).take 4) []))
section
variable {d:Int} {ts:Ts}
theorem qL (h:Ok ts): ∀ t∈pn d ts,0≤t.1∧t.1≤255:=fun t ht=>h.low t ((dY d ts).mem_iff.mp ht)
theorem lh (h:Ok ts):Ok (ij d ts):=
 eC _ _ _ (jY _ _ (eC _ _ _ fQ.1 fun n hn=>jZ d ts n (List.mem_of_mem_take hn)) (qL h)) fun n hn=>jZ d ts n (List.mem_of_mem_drop hn)
theorem pE {n:Int} (hn:n∈aP d ts): ∃ t∈ij d ts,t.1=n:=by
 by_cases q:n∈(aP d ts).drop 4
 ·exact jL q
 ·have h4:n∈(aP d ts).take 4:=(List.mem_append.mp ((List.take_append_drop 4 (aP d ts)).symm▸hn)).resolve_right q
  obtain ⟨t,h1,h2⟩:=jL (c:=-1) (s:=[]) h4
  exact ⟨t,eS (ik h1 fun u hu e=>ll d ts n hn u ((dY d ts).mem_iff.mp hu) (e.symm.trans h2)) (by rw [h2]; exact q),h2⟩
theorem pF (h:Ok ts) {ms:List Int} (hp:ms.Perm (aP d ts)):eR ms (ij d ts)=ts:=by
 refine xB (nk ms _ (lh h)).up h.up fun t=>?_
 rw [mem_takes,hp.mem_iff]
 constructor
 ·rintro ⟨h1,h2⟩
  rcases lW h1 with q | q
  ·exact absurd (List.mem_of_mem_drop q) h2
  ·rcases rA q with q | q
   ·exact (dY d ts).mem_iff.mp q
   ·rcases lW q with q | q
    ·exact absurd (List.mem_of_mem_take q) h2
    ·cases q
 ·intro ht
  have nn:t.1 ∉ aP d ts:=fun q=>ll d ts _ q t ht rfl
  exact ⟨eS (on (AU h.up (dY d ts)) ((dY d ts).mem_iff.mpr ht)) fun q=>nn (List.mem_of_mem_drop q),nn⟩
end
theorem uE {ts:Ts} {n:Int} (h: ∃ t∈ts,t.1=n): ∃ v,ft ts n=.int v:=by
 obtain ⟨t,h1,h2⟩:=h
 rcases pZ ts n with ⟨_,e⟩ | q
 ·rw [← e] at h1; exact absurd h2 (mem_wo.mp h1).2
 ·exact q
structure AF (σ:String→Option V) (n:Nat) (d:Int) (ts:Ts):Prop where
 store:σ "_law_store" =some (.loc (n+1))
 plain:σ "_law_plain" =some (.lst (ts.map pr))
 draw:σ "_law_draw" =some (.int d)
 more:σ "_law_more" =some (.lst ((aP d ts).map .int))
noncomputable def kC (ms:List Int):List Int:=ms.mergeSort fun a b=>decide (a≤b)
theorem sK (ms:List Int):((kC ms).map V.int).Pairwise fun a b=>leV a b=true:=by
 rw [List.pairwise_map]
 exact List.pairwise_mergeSort (le:=fun a b:Int=>decide (a≤b)) (fun x y z h1 h2=>decide_eq_true (Int.le_trans (of_decide_eq_true h1) (of_decide_eq_true h2))) (fun x y=>by rw [Bool.or_eq_true,decide_eq_true_iff,decide_eq_true_iff]; exact Int.le_total x y) ms
theorem kH (c:Int) (ms:List Int) (s:Ts) {i:Nat} (h:i < ms.length):fx c (ms.take (i+1)) s=bt (fx c (ms.take i) s) ms[i] c:=by rw [fx,List.take_succ_eq_append_getElem h,List.foldl_append]; rfl
theorem rz (us s:Ts) {i:Nat} (h:i < us.length):iV (us.take (i+1)) s=bt (bt (iV (us.take i) s) us[i].1 (us[i].2 / 2)) us[i].1 us[i].2:=by rw [iV,List.take_succ_eq_append_getElem h,List.foldl_append]; rfl
theorem oK (ms:List Int) (s:Ts) {i:Nat} (h:i < ms.length):eR (ms.take (i+1)) s=woT (eR (ms.take i) s) ms[i]:=by rw [eR,List.take_succ_eq_append_getElem h,List.foldl_append]; rfl
theorem wC {ns:List Int} (F:br C "_law_other" ["_law_plain", "_law_script"] iC) {ts:Ts} {b:Nat} (ho:Ok ts) (hbe:dK (ns.getD 0 0)=b)
  (Gc: ∀ (H:List HO) (j:Nat),Calls C k "_law_cell_at" [.lst (ns.map .int),.int j] H (.ok (.int (ns.getD j 0))) H) (Gb: ∀ (H:List HO) (c:Int),Calls C k "_law_bound" [.int c] H (.ok (.int (dK c))) H)
  (Gi:Calls C k "Store.__init__" [.loc (H.length+1),.int b] (H++[HO.attrs []]++[HO.obj H.length]) (.ok .none) ((H++[HO.attrs []]++[HO.obj H.length]).set H.length (stA b [])))
  (Gp: ∀ (s:Ts) (n v:Int),Ok s→0≤n∧n≤255→Calls C k "Store.put" [.loc (H.length+1),.int n,.int v] (H++[stA b s]++[HO.obj H.length]) (.ok (ft s n)) ((H++[stA b s]++[HO.obj H.length]).set H.length (stA b (bt s n v))))
  (Gt: ∀ (s:Ts) (n v:Int),0≤n∧n≤255→ft s n=.int v→Calls C k "Store.take" [.loc (H.length+1),.int n] (H++[stA b s]++[HO.obj H.length]) (.ok (.int v)) ((H++[stA b s]++[HO.obj H.length]).set H.length (stA b (woT s n))))
  (Go: ∀ (H:List HO) (d:Int),Calls C k "_law_order" [.lst (ts.map pr),.int d] H (.ok (.lst ((pn d ts).map pr))) H):
  Calls C (k+1) "_law_other" [.lst (ts.map pr),.lst (ns.map .int)] H (.ok (.loc (H.length+1))) (H++[stA b ts]++[HO.obj H.length]):=by
 have gb:=Gb H (ns.getD 0 0)
 rw [hbe] at gb
 rw [oV] at Gi
 have Gp: ∀ (s:Ts) (n v:Int),Ok s→0≤n∧n≤255→Calls C k "Store.put" [.loc (H.length+1),.int n,.int v] (H++[stA b s]++[HO.obj H.length]) (.ok (ft s n)) (H++[stA b (bt s n v)]++[HO.obj H.length]):=fun s n v h1 h2=>by
  have:=Gp s n v h1 h2
  rw [oV] at this; exact this
 have Gt: ∀ (s:Ts) (n v:Int),0≤n∧n≤255→ft s n=.int v→Calls C k "Store.take" [.loc (H.length+1),.int n] (H++[stA b s]++[HO.obj H.length]) (.ok (.int v)) (H++[stA b (woT s n)]++[HO.obj H.length]):=fun s n v h1 h2=>by
  have:=Gt s n v h1 h2
  rw [oV] at this; exact this
 have low:=jZ (ns.getD 2 0 % 10007) ts
 have has:=fun n=>pE (d:=ns.getD 2 0 % 10007) (ts:=ts) (n:=n)
 have fin:=fun ms=>pF (d:=ns.getD 2 0 % 10007) ho (ms:=ms)
 have oi:=qL (d:=ns.getD 2 0 % 10007) ho
 have fo:=lh (d:=ns.getD 2 0 % 10007) ho
 have nd:(aP (ns.getD 2 0 % 10007) ts).Nodup:=(wg _).filter _
 have ml:(aP (ns.getD 2 0 % 10007) ts).length≤8:=by
  refine Nat.le_trans (List.length_filter_le _ _) ?_
  rw [pv,List.length_map,List.length_range]
  exact Int.toNat_le.mpr (Int.le_of_lt (Int.emod_lt_of_pos _ (by decide)))
 have mr:(0:Int)≤ns.getD 2 0 % 10007 / 256 % 8:=Int.emod_nonneg _ (by decide)
 have mr8:(ns.getD 2 0 % 10007 / 256 % 8).toNat≤1000000:=Nat.le_trans (Int.toNat_le.mpr (Int.le_of_lt (Int.emod_lt_of_pos _ (by decide:(0:Int) < 8)))) (by decide)
 refine bv F rfl (aw (mH (aE (ah (aE (ah (bG (aa rfl) ac) (Gc _ 0))) gb)) Gi) (aw (af (ah (bG (aa rfl) ac) (Gc _ 2)) ac (.mod (by decide))) ?_))
 have more: ∀ H:List HO,gc H (.lst ((ts.map (·.1)).map .int)) ((ts.map (·.1)).map .int):=fun H=>.lst _
 generalize hd:ns.getD 2 0 % 10007=d at*
 have it:=dF mr8
 rw [Int.toNat_of_nonneg mr] at it
 refine aw (cf (eH (g:=pr) (q:=fun t=>V.int t.1) (rs:=ts) (aa rfl) (.lst _) (fun t _=>ag (aa rfl) ac bj) .lst) (v':=.lst ((ts.map (·.1)).map .int)) (by rw [List.map_map]; rfl)) ?_
 refine aw (cf (eH (g:=fun j:Nat=>V.int j) (q:=fun j:Nat=>V.int ((d+37*(j:Int)) % 256)) (rs:=List.range (d / 256 % 8).toNat) (aH (aE (af (af (aa rfl) ac (.div (by decide) (by decide))) ac (.mod (by decide)))) (.range1 _)) it (fun j _=>af (af (aa rfl) (af ac (aa rfl) (.mul (.inl (by decide)))) (.add _ _)) ac (.mod (by decide))) .lst) (v':=.lst ((pv d).map .int)) (by rw [pv,List.map_map]; rfl)) ?_
 refine aw (aW (g:=V.int) (q:=V.int) (p:=fun n=>!decide (n∈ts.map (·.1))) (rs:=pv d) (aa rfl) (.lst _) (fun n _=>jk (aa rfl) (aa rfl) (.nin (.int (more _)))) (fun _ _ _=>aa rfl) .lst) ?_
 refine eh (items:=((aP d ts).take 4).map .int) (fun m st=>st.H=H++[stA b (fx (-1) (((aP d ts).take 4).take m) [])]++[HO.obj H.length]∧AF st.s H.length d ts) (cf (gH (aa rfl) rfl ac (.seq (.lst _) .lst)) (congrArg V.lst ((gp ((aP d ts).map V.int) 4).trans List.map_take.symm))) (.lst _) ⟨rfl,⟨rfl,rfl,rfl,rfl⟩⟩ ?_ ?_
 ·rintro m w ⟨s,H'⟩ hw ⟨e1,v⟩ Q' hQ
  have e1:H'=_:=e1
  subst e1
  obtain ⟨hm,rfl⟩:=bL hw
  refine fq (bH (aa (by exact v.store)) stAt2.at rfl (bG (aa rfl) (uj ac)) (Gp _ _ _ (eC _ _ _ fQ.1 fun n hn=>low n (List.mem_of_mem_take (List.mem_of_mem_take hn))) (low _ (List.mem_of_mem_take (List.getElem_mem hm))))) (aZ (hQ _ ⟨?_,⟨by exact v.store,by exact v.plain,by exact v.draw,by exact v.more⟩⟩).1)
  rw [kH _ _ _ hm]
 rintro ⟨s,H'⟩ ⟨e1,v⟩
 rw [List.length_map,List.take_length] at e1
 have e1:H'=_:=e1
 subst e1
 refine eh (items:=(pn d ts).map pr) (fun m st=>st.H=H++[stA b (iV ((pn d ts).take m) (fx (-1) ((aP d ts).take 4) []))]++[HO.obj H.length]∧AF st.s H.length d ts) (ah (bG (aa (by exact v.plain)) (aa (by exact v.draw))) (Go _ _)) (.lst _) ⟨rfl,⟨by exact v.store,by exact v.plain,by exact v.draw,by exact v.more⟩⟩ ?_ ?_
 ·rintro m w ⟨s,H'⟩ hw ⟨e1,v⟩ Q' hQ
  have e1:H'=_:=e1
  subst e1
  obtain ⟨hm,rfl⟩:=bL hw
  have k1:=eC (-1) ((aP d ts).take 4) [] fQ.1 fun n hn=>low n (List.mem_of_mem_take hn)
  have k2:=jY ((pn d ts).take m) _ k1 fun t ht=>oi t (List.mem_of_mem_take ht)
  have k3:=oi _ (List.getElem_mem hm)
  refine fq (bH (aa (by exact v.store)) stAt2.at rfl (bG (ag (aa rfl) ac bj) (af (ag (aa rfl) ac gx) ac (.div (by decide) (by decide)))) (Gp _ _ _ k2 k3)) (fq (bH (aa (by exact v.store)) stAt2.at rfl (bG (ag (aa rfl) ac bj) (ag (aa rfl) ac gx)) (Gp _ _ _ (jP k2 k3 _) k3)) (aZ (hQ _ ⟨?_,⟨by exact v.store,by exact v.plain,by exact v.draw,by exact v.more⟩⟩).1))
  rw [rz _ _ hm]
 rintro ⟨s,H'⟩ ⟨e1,v⟩
 rw [List.length_map,List.take_length] at e1
 have e1:H'=_:=e1
 subst e1
 refine eh (items:=((aP d ts).drop 4).map .int) (fun m st=>st.H=H++[stA b (fx (-2) (((aP d ts).drop 4).take m) (iV (pn d ts) (fx (-1) ((aP d ts).take 4) [])))]++[HO.obj H.length]∧AF st.s H.length d ts) (cf (eZ (aa (by exact v.more)) rfl ac (.seq (.lst _) .lst)) (congrArg V.lst ((gv ((aP d ts).map V.int) 4).trans List.map_drop.symm))) (.lst _) ⟨rfl,⟨by exact v.store,by exact v.plain,by exact v.draw,by exact v.more⟩⟩ ?_ ?_
 ·rintro m w ⟨s,H'⟩ hw ⟨e1,v⟩ Q' hQ
  have e1:H'=_:=e1
  subst e1
  obtain ⟨hm,rfl⟩:=bL hw
  have k1:=eC (-1) ((aP d ts).take 4) [] fQ.1 fun n hn=>low n (List.mem_of_mem_take hn)
  have k2:=jY (pn d ts) _ k1 oi
  refine fq (bH (aa (by exact v.store)) stAt2.at rfl (bG (aa rfl) (uj ac)) (Gp _ _ _ (eC _ _ _ k2 fun n hn=>low n (List.mem_of_mem_drop (List.mem_of_mem_take hn))) (low _ (List.mem_of_mem_drop (List.getElem_mem hm))))) (aZ (hQ _ ⟨?_,⟨by exact v.store,by exact v.plain,by exact v.draw,by exact v.more⟩⟩).1)
  rw [kH _ _ _ hm]
 rintro ⟨s,H'⟩ ⟨e1,v⟩
 rw [List.length_map,List.take_length] at e1
 have e1:H'=H++[stA b (ij d ts)]++[HO.obj H.length]:=e1
 subst e1
 have sp:(kC (aP d ts)).Perm (aP d ts):=List.mergeSort_perm _ _
 have sn:(kC (aP d ts)).Nodup:=sp.nodup_iff.mpr nd
 refine eh (items:=(kC (aP d ts)).map .int) (fun m st=>st.H=H++[stA b (eR ((kC (aP d ts)).take m) (ij d ts))]++[HO.obj H.length]∧AF st.s H.length d ts) (bu (aE (aa (by exact v.more))) (.sorted (ys:=(kC (aP d ts)).map .int) (.lst _) (.nums fun u hu=>?_) ?_ (sp.map _) (sK _)) .lst) (.lst _) ⟨rfl,⟨by exact v.store,by exact v.plain,by exact v.draw,by exact v.more⟩⟩ ?_ ?_
 ·obtain ⟨n,_,rfl⟩:=List.mem_map.mp hu; exact ⟨n,rfl⟩
 ·rw [List.length_map]; exact Nat.le_trans ml (by decide)
 ·rintro m w ⟨s,H'⟩ hw ⟨e1,v⟩ Q' hQ
  have e1:H'=_:=e1
  subst e1
  obtain ⟨hm,rfl⟩:=bL hw
  have hin:=sp.mem_iff.mp (List.getElem_mem hm)
  obtain ⟨t,t1,t2⟩:=has _ hin
  have nt:(kC (aP d ts))[m] ∉ (kC (aP d ts)).take m:=fun q=>by
   obtain ⟨i,hi,e⟩:=List.mem_iff_getElem.mp q
   rw [List.length_take] at hi
   rw [List.getElem_take] at e
   have lt:=Nat.lt_of_lt_of_le hi (Nat.min_le_left _ _)
   exact List.pairwise_iff_getElem.mp sn i m (Nat.lt_trans lt hm) hm lt e
  obtain ⟨u,hu⟩:=uE ⟨t,mem_takes.mpr ⟨t1,by rw [t2]; exact nt⟩,t2⟩
  refine fq (bH (aa (by exact v.store)) stAt2.at rfl (aE (aa rfl)) (Gt _ _ u (low _ hin) hu)) (aZ (hQ _ ⟨?_,⟨by exact v.store,by exact v.plain,by exact v.draw,by exact v.more⟩⟩).1)
  rw [oK _ _ hm]
 ·rintro ⟨s,H'⟩ ⟨e1,v⟩
  rw [List.length_map,List.take_length,fin _ sp] at e1
  exact aM (aa v.store) ⟨rfl,e1⟩
end
end
noncomputable section
open PySem
noncomputable def sh:Ss:=
 (.cons (.asg "_law_kept" (.mcall "Store.board" "board" (.var "_law_store") .nil))
 (.cons (.asgSub (.var "_law_kept") (.int 0) (.str [120]))
 (.cons (.asg "_law_things" (.mcall "Store.things" "things" (.var "_law_store") .nil))
 (.cons (.ex (.mth .append (.var "_law_things") (.cons (.tup (.cons (.int 999) (.cons (.int 0) .nil))) .nil)))
 (.cons (.ret (.and (.cons (.cmp .Eq (.mcall "Store.rooms" "rooms" (.var "_law_store") .nil) (.var "_law_rooms")) (.cons (.cmp .Eq (.mcall "Store.board" "board" (.var "_law_store") .nil) (.var "_law_board")) (.cons (.cmp .Eq (.mcall "Store.things" "things" (.var "_law_store") .nil) (.var "_law_plain")) .nil)))))
 .nil)))))
noncomputable def si:Ss:=
 (.cons (.asg "_law_mine" (.mcall "Store.rooms" "rooms" (.var "_law_store") .nil))
 (.cons (.ex (.mth .append (.idx (.idx (.var "_law_mine") (.bin .Mod (.bin .FloorDiv (.call "_law_cell_at" (.cons (.var "_law_script") (.cons (.int 2) .nil))) (.int 10007)) (.blt .len (.cons (.var "_law_mine") .nil)))) (.int 1)) (.cons (.tup (.cons (.int 999) (.cons (.int 0) .nil))) .nil)))
 (.cons (.ex (.mth .append (.var "_law_mine") (.cons (.tup (.cons (.str [120]) (.cons (.list .nil) .nil))) .nil)))
 sh)))
noncomputable def sj:Ss:=
 (.cons (.asg "_law_other_here" (.call "_law_other" (.cons (.var "_law_plain") (.cons (.var "_law_script") .nil))))
 (.cons (.asg "_law_rooms" (.comp (.tup (.cons (.idx (.var "_law_room_here") (.int 0)) (.cons (.blt .list (.cons (.idx (.var "_law_room_here") (.int 1)) .nil)) .nil))) "_law_room_here" (.mcall "Store.rooms" "rooms" (.var "_law_store") .nil)))
 (.cons (.asg "_law_board" (.blt .list (.cons (.mcall "Store.board" "board" (.var "_law_store") .nil) .nil)))
 (.cons (.ite (.or (.cons (.cmp .NotEq (.mcall "Store.rooms" "rooms" (.var "_law_other_here") .nil) (.var "_law_rooms")) (.cons (.cmp .NotEq (.mcall "Store.board" "board" (.var "_law_other_here") .nil) (.var "_law_board")) (.cons (.cmp .NotEq (.mcall "Store.depth" "depth" (.var "_law_other_here") .nil) (.mcall "Store.depth" "depth" (.var "_law_store") .nil)) .nil)))) (.cons (.ret (.bool false))
 .nil) .nil)
 (.cons (.ite (.or (.cons (.cmp .NotEq (.call "written" (.cons (.var "_law_store") .nil)) (.call "written" (.cons (.var "_law_other_here") .nil))) (.cons (.cmp .NotEq (.mcall "Store.things" "things" (.var "_law_store") .nil) (.var "_law_plain")) (.cons (.cmp .NotEq (.mcall "Store.things" "things" (.var "_law_other_here") .nil) (.var "_law_plain")) .nil)))) (.cons (.ret (.bool false))
 .nil) .nil)
 si)))))
noncomputable def oB:Ss:=
 (.cons (.asg "_law_store" (.make (.cons (.call "_law_bound" (.cons (.call "_law_cell_at" (.cons (.var "_law_script") (.cons (.int 0) .nil))) .nil)) .nil)))
 (.cons (.asg "_law_plain" (.call "_law_fill" (.cons (.var "_law_store") (.cons (.call "_law_deeds" (.cons (.var "_law_script") .nil)) .nil))))
 (.cons (.ite (.cmp .Eq (.bin .Mod (.call "_law_cell_at" (.cons (.var "_law_script") (.cons (.int 1) .nil))) (.int 3)) (.int 1)) (.cons (.asg "_law_store" (.call "read" (.cons (.call "written" (.cons (.var "_law_store") .nil)) .nil)))
 .nil) .nil)
 sj)))
section
variable {C:Cx} {k:Nat} {H:List HO}
structure G14 (C:Cx) (k:Nat) (ns:List Int) (b:Nat):Prop where
 fill: ∀ {H:List HO} {i j:Nat} {ds:List cJ},ak H→bT H i j b []→(∀ d∈ds,DOk d)→Calls C k "_law_fill" [.loc i,.lst (ds.map dV)] H (.ok (.lst ((cr [] ds).map pr))) (H.set j (stA b (cr [] ds)))
 things: ∀ {H:List HO} {i j:Nat} {ts:Ts},bT H i j b ts→Calls C k "Store.things" [.loc i] H (.ok (.lst (ts.map pr))) H
 thingsL: ∀ {H:List HO} {i j:Nat} {ts:Ts},bT H i j b ts→Calls C k "Store.things" [.loc i] H (.ok (.loc H.length)) (H++[.list (ts.map pr)])
 rooms: ∀ {H:List HO} {i j:Nat} {ts:Ts},ak H→Stk b ts→bT H i j b ts→Calls C k "Store.rooms" [.loc i] H (.ok (.lst ((ae b ts).map aD))) H
 lent: ∀ {H:List HO} {i j:Nat} {ts:Ts} {idx:Nat},ak H→Stk b ts→bT H i j b ts→idx < (ae b ts).length→∃ X r p rs bs zs,rs.length=(ae b ts).length∧wU H X r p rs idx bs zs∧Calls C k "Store.rooms" [.loc i] H (.ok (.loc r)) (H++X)
 board: ∀ {H:List HO} {i j:Nat} {ts:Ts},ak H→Stk b ts→bT H i j b ts→Calls C k "Store.board" [.loc i] H (.ok (.lst ((dq (ae b ts)).map .str))) H
 boardL: ∀ {H:List HO} {i j:Nat} {ts:Ts},ak H→Stk b ts→bT H i j b ts→Calls C k "Store.board" [.loc i] H (.ok (.loc H.length)) (H++[.list ((dq (ae b ts)).map .str)])
 depth: ∀ {H:List HO} {i j:Nat} {ts:Ts},ak H→Stk b ts→bT H i j b ts→Calls C k "Store.depth" [.loc i] H (.ok (.int (bc (ae b ts):Nat))) H
 written: ∀ {H:List HO} {i j:Nat} {ts:Ts},ak H→Stk b ts→bT H i j b ts→Calls C k "written" [.loc i] H (.ok (.str (iQ b ts))) H
 read: ∀ {H:List HO} {ts:Ts},ak H→Stk b ts→Calls C k "read" [.str (iQ b ts)] H (.ok (.loc (H.length+1))) (H++[stA b ts]++[.obj H.length])
 other: ∀ {H:List HO} {ts:Ts},Ok ts→Calls C k "_law_other" [.lst (ts.map pr),.lst (ns.map .int)] H (.ok (.loc (H.length+1))) (H++[stA b ts]++[.obj H.length])
 cell: ∀ (H:List HO) (j:Nat),Calls C k "_law_cell_at" [.lst (ns.map .int),.int j] H (.ok (.int (ns.getD j 0))) H
structure V14 (σ:String→Option V) (ns:List Int) (i b:Nat) (ts:Ts):Prop where
 store:σ "_law_store" =some (.loc i)
 plain:σ "_law_plain" =some (.lst (ts.map pr))
 script:σ "_law_script" =some (.lst (ns.map .int))
structure W14 (σ:String→Option V) (ns:List Int) (i b:Nat) (ts:Ts):Prop extends V14 σ ns i b ts where
 rooms:σ "_law_rooms" =some (.lst ((ae b ts).map aD))
 board:σ "_law_board" =some (.lst ((dq (ae b ts)).map .str))
section
variable {ns:List Int} {b i j:Nat} {ts:Ts} {σ:String→Option V}
theorem rX (b:Nat) (ts:Ts):0 < ((dq (ae b ts)).map V.str).length:=by rw [List.length_map,dq,List.length_map,cK]; exact Nat.two_pow_pos _
theorem uK (g:G14 C k ns b) (hz:ak H) (gs:Stk b ts) (S:bT H i j b ts) (v:W14 σ ns i b ts):
  wSs (Calls C k) C.glo sh ⟨σ,H⟩ (fun fl st=>kG fl=.bool true∧low ([]:List HO).length (.bool true)∧st.H.take ([]:List HO).length=[]) noX:=by
 refine aw (bH (aa v.store) S.at rfl aF (g.boardL hz gs S)) ?_
 refine sT aA (aa rfl) ac ci (by decide) (rX b ts) ?_
 show wSs (Calls C k) C.glo _ ⟨_,(H++[HO.list ((dq (ae b ts)).map V.str)]).set H.length _⟩ _ _
 rw [ez]
 have S1:=S.ext [HO.list (((dq (ae b ts)).map V.str).set (0:Int).toNat (.str [120]))]
 have z1:ak (H++[HO.list (((dq (ae b ts)).map V.str).set (0:Int).toNat (.str [120]))]):=dw hz fun _=>HO.noConfusion
 generalize H++[HO.list (((dq (ae b ts)).map V.str).set (0:Int).toNat (.str [120]))]=H1 at*
 refine aw (bH (aa (by exact v.store)) S1.at rfl aF (g.thingsL S1)) ?_
 refine fq (aN (aa rfl) ci (aE (aV (bG ac ac))) ci (by rw [List.length_map]; exact Nat.lt_of_le_of_lt (jg gs.ok) (by decide))) ?_
 show wSs (Calls C k) C.glo _ ⟨_,(H1++[HO.list (ts.map pr)]).set H1.length _⟩ _ _
 rw [ez]
 have S2:=S1.ext [HO.list (ts.map pr++[.tup [.int 999,.int 0]])]
 have z2:ak (H1++[HO.list (ts.map pr++[.tup [.int 999,.int 0]])]):=dw z1 fun _=>HO.noConfusion
 generalize H1++[HO.list (ts.map pr++[.tup [.int 999,.int 0]])]=H2 at*
 exact aM (lr (km (ai (aQ (aa (by exact v.store)) S2.at rfl aF (g.rooms z2 gs S2)) (aa (by exact v.rooms)) (.eq (.self _) (.self _) (gy _) (gy _)) (ck _)) (km (ai (aQ (aa (by exact v.store)) S2.at rfl aF (g.board z2 gs S2)) (aa (by exact v.board)) (.eq (.self _) (.self _) (jO _) (jO _)) (ck _)) (km (ai (aQ (aa (by exact v.store)) S2.at rfl aF (g.things S2)) (aa (by exact v.plain)) (.eq (.self _) (.self _) (pd _) (pd _)) (ck _)) so)))) ⟨rfl,trivial,rfl⟩
theorem bT.past {b:Int} (S:bT H i j b ts) {n:Nat} (h:H.length≤n) {X:List HO} {o:HO}:bT ((H++X).set n o) i j b ts:=by
 have hi:=(List.getElem?_eq_some_iff.mp S.obj).1
 have hj:=(List.getElem?_eq_some_iff.mp S.att).1
 have E:=S.ext X
 exact ⟨by rw [List.getElem?_set_ne (Nat.ne_of_gt (Nat.lt_of_lt_of_le hi h))]; exact E.obj,by rw [List.getElem?_set_ne (Nat.ne_of_gt (Nat.lt_of_lt_of_le hj h))]; exact E.att⟩
theorem uL (g:G14 C k ns b) (hz:ak H) (gs:Stk b ts) (S:bT H i j b ts) (v:W14 σ ns i b ts):
  wSs (Calls C k) C.glo si ⟨σ,H⟩ (fun fl st=>kG fl=.bool true∧low ([]:List HO).length (.bool true)∧st.H.take ([]:List HO).length=[]) noX:=by
 have np:0 < (ae b ts).length:=List.length_pos_iff.mpr (df 8 [] ts)
 have pos:(0:Int) < ((ae b ts).length:Nat):=Int.ofNat_lt.mpr np
 have c0:=Int.emod_nonneg (ns.getD 2 0 / 10007) (Int.ne_of_gt pos)
 have c1:=Int.emod_lt_of_pos (ns.getD 2 0 / 10007) pos
 obtain ⟨idx,hidx⟩: ∃ n:Nat,ns.getD 2 0 / 10007 % ((ae b ts).length:Nat)=(n:Int):=⟨_,(Int.toNat_of_nonneg c0).symm⟩
 rw [hidx] at c1
 obtain ⟨X,r,p,rs,bs,zs,hl,L,gr⟩:=g.lent (idx:=idx) hz gs S (Int.ofNat_lt.mp c1)
 rw [← hl] at pos hidx
 refine aw (bH (aa v.store) S.at rfl aF gr) ?_
 refine fq (aN (ag (ag (aa rfl) (cf (af (af (ah (bG (aa (by exact v.script)) ac) (g.cell _ 2)) ac (.div (by decide) (by decide))) (aH (aE (aa rfl)) (.len (.seq (.loc L.rooms)))) (.mod pos)) (congrArg V.int hidx)) (.seq (.loc L.rooms) (Int.natCast_nonneg _) (by rw [Int.toNat_natCast]; exact L.one))) ac (.tup (by decide) rfl)) L.things (aE (aV (bG ac ac))) L.things (Nat.lt_of_le_of_lt L.few (by decide))) ?_
 have r2:((H++X).set p (.list (zs++[.tup [.int 999,.int 0]])))[r]?= some (.list rs):=by rw [List.getElem?_set_ne (Ne.symm L.ne)]; exact L.rooms
 refine fq (aN (aa rfl) r2 (aE (aV (bG aA (aR aF .lst)))) r2 (Nat.lt_of_le_of_lt L.len (by decide))) ?_
 have hi:=(List.getElem?_eq_some_iff.mp S.obj).1
 have hj:=(List.getElem?_eq_some_iff.mp S.att).1
 have E:=S.past (X:=X) (o:=.list (zs++[.tup [.int 999,.int 0]])) L.hp
 have zX:ak (H++X):=fun c q=>(List.mem_append.mp q).elim (hz c) fun q=>L.nz _ q c rfl
 refine uK (j:=j) g (eE (eE zX fun _=>HO.noConfusion) fun _=>HO.noConfusion) gs ⟨?_,?_⟩ ⟨⟨by exact v.store,by exact v.plain,by exact v.script⟩,by exact v.rooms,by exact v.board⟩
 ·exact (List.getElem?_set_ne (Nat.ne_of_gt (Nat.lt_of_lt_of_le hi L.hr))).trans E.obj
 ·exact (List.getElem?_set_ne (Nat.ne_of_gt (Nat.lt_of_lt_of_le hj L.hr))).trans E.att
theorem qd (g:G14 C k ns b) (hz:ak H) (gs:Stk b ts) (S:bT H i j b ts) (v:V14 σ ns i b ts):
  wSs (Calls C k) C.glo sj ⟨σ,H⟩ (fun fl st=>kG fl=.bool true∧low ([]:List HO).length (.bool true)∧st.H.take ([]:List HO).length=[]) noX:=by
 have S1:bT (H++[stA b ts]++[HO.obj H.length]) i j b ts:=(S.ext _).ext _
 have S2:bT (H++[stA b ts]++[HO.obj H.length]) (H.length+1) H.length b ts:=stAt2
 have z1:ak (H++[stA b ts]++[HO.obj H.length]):=hV hz (fun _=>HO.noConfusion) fun _=>HO.noConfusion
 refine aw (eK (bG (aa v.plain) (aa v.script)) (g.other gs.ok)) ?_
 have ln: ∀ n:Nat,n=H.length+1→bT (H++[stA b ts]++[HO.obj H.length]) n H.length b ts:=fun n e=>e▸S2
 generalize H++[stA b ts]++[HO.obj H.length]=H1 at*
 refine aw (eH (g:=aD) (q:=aD) (rs:=ae b ts) (aQ (aa (by exact v.store)) S1.at rfl aF (g.rooms z1 gs S1)) (.lst _) (fun x _=>aV (bG (ag (aa rfl) ac bJ) (bu (aE (ag (aa rfl) ac aL)) (.list (.lst _)) .lst))) .lst) ?_
 refine aw (bu (aE (aQ (aa (by exact v.store)) S1.at rfl aF (g.board z1 gs S1))) (.list (.lst _)) .lst) ?_
 refine aY (tE (pV (ai (aQ (aa rfl) S2.at rfl aF (g.rooms z1 gs S2)) (aa rfl) (.ne (.self _) (.self _) (gy _) (gy _)) (by rw [ck]; rfl)) (pV (ai (aQ (aa rfl) S2.at rfl aF (g.board z1 gs S2)) (aa rfl) (.ne (.self _) (.self _) (jO _) (jO _)) (by rw [ck]; rfl)) (pV (ai (aQ (aa rfl) S2.at rfl aF (g.depth z1 gs S2)) (aQ (aa (by exact v.store)) S1.at rfl aF (g.depth z1 gs S1)) cP qN) nJ)))) ?_
 refine aY (tE (pV (ai (ah (aE (aa (by exact v.store))) (g.written z1 gs S1)) (ah (aE (aa rfl)) (g.written z1 gs S2)) (.ne (.self _) (.self _) rfl rfl) (by rw [ck]; rfl)) (pV (ai (aQ (aa (by exact v.store)) S1.at rfl aF (g.things S1)) (aa (by exact v.plain)) (.ne (.self _) (.self _) (pd _) (pd _)) (by rw [ck]; rfl)) (pV (ai (aQ (aa rfl) S2.at rfl aF (g.things S2)) (aa (by exact v.plain)) (.ne (.self _) (.self _) (pd _) (pd _)) (by rw [ck]; rfl)) nJ)))) ?_
 exact uL g z1 gs S1 ⟨⟨by exact v.store,by exact v.plain,by exact v.script⟩,rfl,rfl⟩
theorem kN (b:Nat) (p:Ts):ak [stA b p,.obj 0]:=fun c q=>by
 simp only [List.mem_cons,List.not_mem_nil,or_false,stA] at q
 rcases q with q | q<;>cases q
theorem we (b:Nat) (p q:Ts):ak [stA b p,.obj 0,stA b q,.obj 2]:=fun c h=>by
 simp only [List.mem_cons,List.not_mem_nil,or_false,stA] at h
 rcases h with h | h | h | h<;>cases h
theorem wG (F:br C "law" ["_law_script"] oB) (hb:dK (ns.getD 0 0)=b) (g:G14 C k ns b) (Gb: ∀ (H:List HO) (c:Int),Calls C k "_law_bound" [.int c] H (.ok (.int (dK c))) H)
  (Gi: ∀ {H:List HO} {i j:Nat} {b:Int},H[i]?= some (.obj j)→H[j]?= some (.attrs [])→1≤b→b≤64→Calls C k "Store.__init__" [.loc i,.int b] H (.ok .none) (H.set j (stA b [])))
  (Gd: ∀ {H:List HO},ak H→Calls C k "_law_deeds" [.lst (ns.map .int)] H (.ok (.lst ((ow ns).map dV))) H):
  Calls C (k+1) "law" [.lst (ns.map .int)] [] (.ok (.bool true)) []:=by
 obtain ⟨q1,q2⟩:=lz (ns.getD 0 0)
 have gb:=Gb [] (ns.getD 0 0)
 rw [hb] at q1 q2 gb
 have i1:=Gi (H:=[HO.attrs [],.obj 0]) (i:=1) (j:=0) (b:=b) rfl rfl (Int.ofNat_le.mpr q1) (Int.ofNat_le.mpr q2)
 have dok:=tF ns
 have gd:=Gd (kN b [])
 generalize ow ns=ds at*
 have o1:=nG ds [] fQ.1 fQ.2 dok
 have g1:Stk b (cr [] ds):=⟨q1,q2,o1.1,o1.2⟩
 have f1:=g.fill (kN b []) (⟨rfl,rfl⟩:bT [stA b [],.obj 0] 1 0 b []) dok
 generalize cr [] ds=p1 at*
 have S1:bT [stA b p1,.obj 0] 1 0 b p1:=⟨rfl,rfl⟩
 refine az F rfl (aw (mH (aE (ah (aE (ah (bG (aa rfl) ac) (g.cell _ 0))) gb)) i1) (aw (eK (bG (aa rfl) (ah (aE (aa rfl)) gd)) f1) ?_))
 by_cases h:ns.getD 1 0 % 3=1
 ·refine cV (ai (af (ah (bG (aa rfl) ac) (g.cell _ 1)) ac (.mod (by decide))) ac bd (decide_eq_true h)) (aw (eK (aE (ah (aE (aa rfl)) (g.written (kN _ _) g1 S1))) (g.read (kN _ _) g1)) (aZ (aG ?_)))
  exact qd g (we b p1 p1) g1 (⟨rfl,rfl⟩:bT [stA b p1,.obj 0,stA b p1,.obj 2] 3 2 b p1) ⟨rfl,rfl,rfl⟩
 ·refine aY (ai (af (ah (bG (aa rfl) ac) (g.cell _ 1)) ac (.mod (by decide))) ac bd (decide_eq_false h)) ?_
  exact qd g (kN b p1) g1 S1 ⟨rfl,rfl,rfl⟩
end
end
end
noncomputable section
open PySem PySem.W PyProof.Rows
theorem tw {l:OpenLaw} {n:Nat} (hmost:l.most=some n) {args:List WData} (hpre:l.row.claim.pre args=true): ∃ ns:List Int,args=[.list (ns.map .int)]∧ns.length≤n:=by
 obtain ⟨h1,h2⟩:=pre_splitW hpre
 obtain ⟨d,r,rfl,hd,hr⟩:=hasAllW_cons h1
 have:=hasAllW_nil hr
 subst this
 obtain ⟨xs,rfl,hxs⟩:=hasW_list hd
 have key: ∀ xs:List WData,WShape.hasItems l.row.records xs .int=true→∃ ns:List Int,xs=ns.map .int:=by
  intro xs
  induction xs with
  | nil=>intro _; exact ⟨[],rfl⟩
  | cons x xs ih=>
   intro h
   have h:(WShape.has l.row.records x .int && WShape.hasItems l.row.records xs .int)=true:=h
   obtain ⟨i,rfl⟩:=hasW_int (Bool.and_eq_true_iff.mp h).1
   obtain ⟨ns,rfl⟩:=ih (Bool.and_eq_true_iff.mp h).2
   exact ⟨i::ns,rfl⟩
 obtain ⟨ns,rfl⟩:=key xs hxs
 refine ⟨ns,rfl,?_⟩
 have h2:WTm.holds l.row.records l.pre { args:=[.list (ns.map .int)]}=true:=h2
 unfold OpenLaw.pre at h2
 have h3:=(holds_andW h2).1
 rw [hmost] at h3
 have h4:=condW_of h3 (w_not (w_lt w_lit (w_len_list (w_arg rfl))))
 rw [Bool.not_eq_true',decide_eq_false_iff_not,List.length_map] at h4
 exact Int.ofNat_le.mp (Int.not_lt.mp h4)
noncomputable def zD (v:Value):Option { a:Addr // v=.ref a }:=match v with
 | .ref a=>some ⟨a,rfl⟩
 | _=>none
noncomputable def CQ (v:Value):Option { i:Int // ∃ t,v=.int i t }:=match v with
 | .int i t=>some ⟨i,t,rfl⟩
 | _=>none
noncomputable def oFn (d:Data):Option { fd:FuncData // d=.func fd }:=match d with
 | .func fd=>some ⟨fd,rfl⟩
 | _=>none
noncomputable def bSt (b:FuncBody):Option { ss:List Stmt // b=.stmts ss }:=match b with
 | .stmts ss=>some ⟨ss,rfl⟩
 | _=>none
noncomputable def CE (K:Frag) (fd:FuncData) (ps:List String):Bool:=
 codeIn K fd.code fd.qualname && fd.closure.isEmpty && Nat.beq fd.globals mainGlobals && Nat.beq fd.builtins builtinsNs &&
 fd.scope.kind == .function && !fd.scope.isCoroutine && !fd.scope.isGenerator && (ps.all fun p=>kd fd.scope p == some .local || kd fd.scope p == some .cell) &&
 (fd.scope.names.all fun p=>!(p.2 == .free)) && decide ps.Nodup
noncomputable def glo? (K:Frag) (f:String):Option Value:=(nsIn K mainGlobals f).bind id
noncomputable def xw (K:Frag) (f:String):Option Addr:=(glo? K f).bind fun v=>(zD v).map (·.1)
noncomputable def DD (K:Frag) (cls:Addr) (m:String):Option Addr:=((findIn K (.ref cls) (m:Str)).bind id).bind fun v=>(zD v).map (·.1)
noncomputable def faK (K:Frag) (cls:Addr) (ms:List (String×String)) (f:String):Option Addr:=(ms.find? fun p=>p.2 == f).elim (xw K f) fun p=>DD K cls p.1
noncomputable def AE (K:Frag) (fa:String→Option Addr) (f:String):Option (Addr×Obj):=(fa f).bind fun a=>(K.lookup a).map fun o=>(a,o)
noncomputable def zj (K:Frag) (fa:String→Option Addr) (f:String):Option FuncData:=(AE K fa f).bind fun x=>(oFn x.2.data).map (·.1)
noncomputable def BH (K:Frag) (fa:String→Option Addr) (f:String) (ps:List String):Bool:=(AE K fa f).any fun x=>(oFn x.2.data).any fun fd=>CE K fd.1 ps
noncomputable def ut (K:Frag) (fa:String→Option Addr) (N:Nm) (n:Nat) (f:String):Option Ss:=(zj K fa f).bind fun fd=>(bSt fd.body).map fun b=>cSs N n fd.scope b.1
theorem BB {P:List Value→Prop} {n:Nat} (h: ∀ a r,r.length=n→P (a::r)) (l:List Value) (e:l.length=n+1):P l:=by
 cases l with
 | nil=>cases e
 | cons a r=>exact h a r (Nat.succ.inj e)
theorem DE {P:List Value→Prop} (h:P []) (l:List Value) (e:l.length=0):P l:=by rw [List.eq_nil_of_length_eq_zero e]; exact h
theorem kT {P:List Value→Prop} (h: ∀ a,P [a]): ∀ l,l.length=1→P l:=BB fun a=>DE (P:=fun r=>P (a::r)) (h a)
theorem nR {P:List Value→Prop} (h: ∀ a b,P [a,b]): ∀ l,l.length=2→P l:=BB fun a=>kT (P:=fun r=>P (a::r)) (h a)
theorem BC {P:List Value→Prop} (h: ∀ a b c,P [a,b,c]): ∀ l,l.length=3→P l:=BB fun a=>nR (P:=fun r=>P (a::r)) (h a)
theorem bM {α:Type} {o:Option α} {p:α→Bool} (h:o.any p=true): ∃ x,o=some x∧p x=true:=by
 cases o with
 | none=>cases h
 | some x=>exact ⟨x,rfl,h⟩
section
variable {prog:Program} {w:World} {s:Shared} {mg mb:Str→Option Value} {K:Frag}
noncomputable def zh (gl:List (String×Int)) (x:String):Option V:=(gl.lookup x).map .int
noncomputable def uh (K:Frag) (gl:List (String×Int)):Bool:=gl.all fun p=>(glo? K p.1).any fun v=>(CQ v).any fun j=>p.2 == j.1
noncomputable def zf (K:Frag) (fa:String→Option Addr) (f:String):Bool:=(zj K fa f).isSome && (fa f).any fun a=>(xw K f).any fun b=>Nat.beq a b
noncomputable def fnT (K:Frag) (a:Addr):Bool:=typeIn K (.ref a) == some (.type "function")
noncomputable def ul (K:Frag) (cls:Addr) (fa:String→Option Addr) (ms:List (String×String)) (ats:List String):Bool:=
 (xw K "Store").any (fun a=>Nat.beq a cls) && makesIn K cls && (fa "Store.__init__").any (fun a=>findIn K (.ref cls) "__init__" == some (some (.ref a)) && fnT K a) &&
 findIn K (.ref cls) "__getattribute__" == some (some (.builtin "object.__getattribute__")) && findIn K (.ref cls) "__getattr__" == some none && findIn K (.ref cls) "__setattr__" == some (some (.builtin "object.__setattr__")) &&
 plainOver K cls && hasDictIn K cls && ms.all (fun p=>(fa p.2).any fun a=>findIn K (.ref cls) (p.1:Str) == some (some (.ref a)) && fnT K a && keepIn K (.ref a)) && keepIn K (.ref cls) && ats.all (fun x=>findIn K (.ref cls) (x:Str) == some none)
  && mB K cls
noncomputable def zA (K:Frag):Bool:=bltNames.all fun f=>(nsIn K mainGlobals f).any fun o=>o.isNone
theorem od {f:String} {v:Value} (e:glo? K f=some v):nsIn K mainGlobals f=some (some v):=by
 obtain ⟨o,h1,h2⟩:=Option.bind_eq_some_iff.mp e
 rw [h1]; exact congrArg some h2
theorem mC {f:String} {a:Addr} (e:xw K f=some a):nsIn K mainGlobals f=some (some (.ref a)):=by
 obtain ⟨v,h1,h2⟩:=Option.bind_eq_some_iff.mp e
 obtain ⟨b,h3,rfl⟩:=Option.map_eq_some_iff.mp h2
 exact b.2▸od h1
theorem wu {fa:String→Option Addr} {f:String} {x:Addr×Obj} (e:AE K fa f=some x):fa f=some x.1∧K.lookup x.1=some x.2:=by
 obtain ⟨a,h1,h2⟩:=Option.bind_eq_some_iff.mp e
 obtain ⟨o,h3,rfl⟩:=Option.map_eq_some_iff.mp h2
 exact ⟨h1,h3⟩
theorem qQ {gl:List (String×Int)} {x:String} {i:Int} (e:gl.lookup x=some i):(x,i)∈gl:=by
 induction gl with
 | nil=>cases e
 | cons p r ih=>
  rw [show (p::r).lookup x=if (x == p.1)=true then some p.2 else r.lookup x by rw [List.lookup]; cases x == p.1<;>rfl] at e
  by_cases q:(x == p.1)=true
  ·rw [if_pos q] at e; cases e
   rw [show x=p.1 from beq_iff_eq.mp q]; exact List.mem_cons_self
  ·rw [if_neg q] at e; exact List.mem_cons_of_mem _ (ih e)
theorem rk (X:K.In s.heap) (G:s.heap.Ns mainGlobals mg) {gl:List (String×Int)} (h:uh K gl=true) (x:String) (v:V) (e:zh gl x=some v): ∃ i t,v=.int i∧mg x=some (.int i t):=by
 obtain ⟨i,ei,rfl⟩:=Option.map_eq_some_iff.mp e
 obtain ⟨v,h1,h2⟩:=bM (List.all_eq_true.mp h _ (qQ ei))
 obtain ⟨⟨j,t,hj⟩,_,h3⟩:=bM h2
 have h3:i=j:=beq_iff_eq.mp h3
 subst h3
 exact ⟨i,t,rfl,hj▸mg_of X G (od h1)⟩
theorem tz {fa:String→Option Addr} (X:K.In s.heap) (G:s.heap.Ns mainGlobals mg) {f:String} (h:zf K fa f=true): ∃ a o fd,fa f=some a∧mg (f:Str)=some (.ref a)∧s.heap.get? a=some o∧o.data=.func fd:=by
 obtain ⟨h,h'⟩:=bN h
 obtain ⟨fd,h⟩:=Option.isSome_iff_exists.mp h
 obtain ⟨x,h1,h2⟩:=Option.bind_eq_some_iff.mp h
 obtain ⟨d,_,rfl⟩:=Option.map_eq_some_iff.mp h2
 obtain ⟨a,e1,h'⟩:=bM h'
 obtain ⟨b,e2,h'⟩:=bM h'
 obtain rfl:a=b:=Nat.eq_of_beq_eq_true h'
 obtain ⟨q1,q2⟩:=wu h1
 rw [e1] at q1
 obtain rfl:a=x.1:=Option.some.inj q1
 exact ⟨x.1,x.2,d.1,e1,mg_of X G (mC e2),X _ _ q2,d.2⟩
theorem rP {fa:String→Option Addr} {cls:Addr} {ms:List (String×String)} {ats:List String} (X:K.In s.heap) (G:s.heap.Ns mainGlobals mg) (h:ul K cls fa ms ats=true):wV s.heap mg K cls ms ats fa:=by
 obtain ⟨h,h12⟩:=bN h
 obtain ⟨h,h11⟩:=bN h
 obtain ⟨h,h10⟩:=bN h
 obtain ⟨h,h9⟩:=bN h
 obtain ⟨h,h8⟩:=bN h
 obtain ⟨h,h7⟩:=bN h
 obtain ⟨h,h6⟩:=bN h
 obtain ⟨h,h5⟩:=bN h
 obtain ⟨h,h4⟩:=bN h
 obtain ⟨h,h3⟩:=bN h
 obtain ⟨h1,h2⟩:=bN h
 obtain ⟨a,e1,h1⟩:=bM h1
 obtain rfl:a=cls:=Nat.eq_of_beq_eq_true h1
 obtain ⟨b,e3,h3⟩:=bM h3
 exact ⟨X,mg_of X G (mC e1),h2,⟨b,e3,beq_iff_eq.mp (bN h3).1,beq_iff_eq.mp (bN h3).2⟩,⟨beq_iff_eq.mp h4,beq_iff_eq.mp h5⟩,beq_iff_eq.mp h6,h7,h8,fun p hp=>by
  obtain ⟨c,e,q⟩:=bM (List.all_eq_true.mp h9 p hp)
  exact ⟨c,e,beq_iff_eq.mp (bN (bN q).1).1,beq_iff_eq.mp (bN (bN q).1).2,(bN q).2⟩,h10,fun x hx=>beq_iff_eq.mp (List.all_eq_true.mp h11 x hx)
  ,h12
  ⟩
noncomputable def zk (K:Frag) (exs:List String) (c:String):Bool:=(glo? K c).any fun v=>(zD v).any fun cls=>excIn K cls.1 xA "ValueError.__new__" && rC K cls.1 && kitOne K (.ref cls.1) (.type "ValueError") == some true &&
 exs.all fun c'=>(glo? K c').any fun v'=>(zD v').any fun cls'=>kitOne K (.ref cls.1) (.ref cls'.1) == some (eM c' c) && (!eM c' c || eW K cls.1 cls'.1)
theorem wx {p:Program} {loose:List Str} (X:K.In s.heap) (T:TopRead p loose mg mb s.heap) {exs:List String} (h:exs.all (zk K exs)=true): ∀ c∈exs,∃ cls,su s.heap mg exs c cls:=fun c hc=>by
 obtain ⟨v,e1,h1⟩:=bM (List.all_eq_true.mp h c hc)
 obtain ⟨cls,_,h1⟩:=bM h1
 simp only [Bool.and_eq_true,beq_iff_eq,List.all_eq_true] at h1
 obtain ⟨⟨⟨h1,h2⟩,h3⟩,h4⟩:=h1
 refine ⟨cls.1,own_of_in X T (cls.2▸od e1) h1,K,X,h2,h3,fun c' hc'=>?_⟩
 obtain ⟨v',e2,h5⟩:=bM (h4 c' hc')
 obtain ⟨cls',_,h5⟩:=bM h5
 simp only [Bool.and_eq_true,beq_iff_eq,Bool.or_eq_true,Bool.not_eq_true'] at h5
 exact ⟨cls'.1,mg_of X T.g (cls'.2▸od e2),h5.1,fun z=>h5.2.resolve_left fun y=>by rw [z] at y; cases y⟩
theorem oA: ∀ f∈bltNames,bootBuiltins (f:Str)=some (fc f)∧(f:Str)≠("__name__" :Str):=by decide +kernel
noncomputable def DC (prog:Program) (w:World) (s:Shared) (mg mb:Str→Option Value) (K:Frag) (X:K.In s.heap) (G:s.heap.Ns mainGlobals mg) (B:s.heap.Ns builtinsNs mb) (nl:s.heap.NoLimit)
  (hb: ∀ n:Str,n≠("__name__" :Str)→mb n=bootBuiltins n) (fs:List String) (gl:List (String×Int)) (hg:uh K gl=true) (cls:Addr) (ms:List (String×String)) (ats:List String) (fa:String→Option Addr) (hcl:(ms.isEmpty || ul K cls fa ms ats)=true) (hf:fs.all (zf K fa)=true) (hbl:zA K=true) (exs:List String) (hx: ∀ c∈exs,∃ cls,su s.heap mg exs c cls):Cx where
 prog:=prog
 w:=w
 base:=s.heap
 os:=s.os
 mg:=mg
 mb:=mb
 g:=G
 b:=B
 nolimit:=nl
 glo:=zh gl
 hglo:=rk X G hg
 fns:=fs
 exs:=exs
 hexs:=hx
 fa:=fa
 hfns:=fun f h=>tz X G (List.all_eq_true.mp hf f h)
 K:=K
 cls:=cls
 meths:=ms
 ats:=ats
 hcls:=fun h=>rP X G ((Bool.or_eq_true_iff.mp hcl).resolve_left fun z=>h (List.isEmpty_iff.mp z))
 blts:=fun f h=>by
  obtain ⟨o,h1,h2⟩:=bM (List.all_eq_true.mp hbl f h)
  rw [Option.isNone_iff_eq_none.mp h2] at h1
  exact ⟨mg_none_of X G h1,by rw [hb _ (oA f h).2]; exact (oA f h).1⟩
theorem aq (C:Cx) (X:K.In C.base) {f:String} {ps:List String} {ss:Ss} {l:List String} {n:Nat} (h:BH K C.fa f ps=true) (hb: ∀ vals:List Value,vals.length=ps.length→(zj K C.fa f).map (fun fd=>bindArgs fd ⟨vals,[]⟩)=some (pure (lH ps vals)))
  (hc:ut K C.fa (C.nm l) n f=some ss):br C f ps ss:=by
 obtain ⟨x,e1,h⟩:=bM (o:=AE K C.fa f) h
 obtain ⟨fd,e2,h⟩:=bM h
 have e3:zj K C.fa f=some fd.1:=by rw [zj,e1]; show (oFn x.2.data).map _=_; rw [e2]; rfl
 simp only [CE,Bool.and_eq_true,beq_iff_eq,Bool.not_eq_true',decide_eq_true_eq,List.isEmpty_iff,List.all_eq_true,Bool.or_eq_true] at h
 obtain ⟨⟨⟨⟨⟨⟨⟨⟨⟨h1,h3⟩,h4⟩,h5⟩,h6⟩,h7⟩,h8⟩,h15⟩,h16⟩,h17⟩:=h
 rw [ut,e3] at hc
 obtain ⟨b,_,hc⟩:=Option.map_eq_some_iff.mp (show (bSt fd.1.body).map _=some ss from hc)
 refine ⟨x.1,x.2,fd.1,b.1,⟨(wu e1).1,X _ _ (wu e1).2,fd.2,codeRec_of X h1,b.2,h3,Nat.eq_of_beq_eq_true h4,Nat.eq_of_beq_eq_true h5,h6,h7,h8,fun vals hl=>?_,h15,fun n e=>?_,h17,fun k=>hc▸uZ n _ _⟩⟩
 ·have:=hb vals hl
  rw [e3] at this
  exact Option.some.inj this
 ·exact Bool.noConfusion ((show (NameKind.free == NameKind.free)=true from rfl).symm.trans (h16 _ (cn e)))
noncomputable def yY:Gh:=⟨fun _=>False,fun _=>False,fun _ h=>h,fun _=>False,fun _=>False,fun _ h=>h⟩
theorem wk {l:OpenLaw} {C:Cx} {k:Nat} {s₀ s₁:Shared} {args:List WData} {vals:List Value} {fa:Addr} {n:Nat} (hp:C.prog=l.row.prog) (hb:C.base=s₁.heap) (ho:C.os=s₁.os) (hg:s₁.gens= #[]) (hmost:l.most=some n) (hn:n≤1000)
  (hpre:l.row.claim.pre args=true) (hwl:WellAll C.w.params s₁.heap vals args) (hfa:C.fa "law" =some fa) (hk:k≤200)
  (law: ∀ ns:List Int,ns.length≤n→Calls C k "law" [.lst (ns.map .int)] [] (.ok (.bool true)) []):
  wpAny (model l.row.prog C.w) callerA (call (.ref fa) vals) (fun v s'=>GoodWG l.row.claim (classAt s₀.heap) (ExcName.means s₀.heap) args s₁ (.ok (.ret v)) s')
   (fun e s'=>GoodWG l.row.claim (classAt s₀.heap) (ExcName.means s₀.heap) args s₁ (.error e) s') s₁:=by
 obtain ⟨ns,rfl,hlen⟩:=tw hmost hpre
 have I0:Inv C yY [] [] s₁:=⟨fun b o e=>by rw [← hb]; exact e,rfl,List.nodup_nil,(fun a h=>by cases h),(fun a h=>by cases h),(fun i a o h=>by simp at h),(fun a h=>by cases h),(fun i a o h=>by simp at h),(fun a h=>h.elim),(fun a h=>h.elim),(fun a h=>h.elim),(fun a h=>h.elim),(fun _ a h=>h.elim),hg,ho.symm⟩
 have hargs:aI s₁.heap [] (Nl yY [] []) [.lst (ns.map .int)] vals:=by
  cases hwl with
  | cons h1 h2=>
   cases h2
   cases h1 with
   | list ha hall=>
    refine .cons (.lst ⟨_,ha⟩ (fun q=>?_) (by simp [ay]; exact lin [_,n] [(1,.v 1,.n 1000),(1,.v 0,.v 1)] 1 (.v 0) (.n 16777216) rfl hn hlen) ?_) .nil
    ·rcases q with ⟨i,o,h,_⟩ | h
     ·simp at h
     ·exact h
    ·clear ha hpre
     rename_i vs
     have key: ∀ (ns:List Int) (vs:List Value),WellAll C.w.params s₁.heap vs (ns.map .int)→aI s₁.heap [] (Nl yY [] []) (ns.map .int) vs:=by
      intro ns
      induction ns with
      | nil=>intro vs h; cases h; exact .nil
      | cons i ns ih=>
       intro vs h
       cases h with
       | cons a b=>cases a; exact .cons (.int _ _) (ih _ b)
     exact key ns vs hall
 have hroom:bO (2*k) callerA yY:=⟨by show 1+claimMargin+2*k < 900; unfold claimMargin; exact lin [k] [(2,.v 0,.n 200)] 1 (.a (.a (.a (.n 1) (.n 300)) (.m 2 (.v 0))) (.n 1)) (.n 900) rfl hk,by show 4+4*(2*k) < 9000; exact lin [k] [(8,.v 0,.n 200)] 1 (.a (.a (.n 4) (.m 4 (.m 2 (.v 0)))) (.n 1)) (.n 9000) rfl hk,(fun v h=>by cases h),[],rfl,fun _ h=>by cases h⟩
 have hc:=law ns hlen callerA s₁ yY [] vals fa hroom I0 hargs hfa
 rw [show C.M=model l.row.prog C.w by rw [← hp]] at hc
 refine enter_call (codeAny_mono hc fun res s' p=>?_)
 refine GoodW.toG ?_
 cases res with
 | error e=>exact p.elim
 | ok fl=>
  cases fl with
  | next=>exact p.elim
  | brk=>exact p.elim
  | cont=>exact p.elim
  | ret mv=>
   obtain ⟨ρ',r,I',S⟩:=p
   cases r
   refine ⟨.inl ⟨_,.bool true,[],rfl,fun cls=>rfl,.bool true,?_,fun _=>⟨List.nodup_nil,fun a h=>by cases h⟩⟩,fun b o e=>I'.base b o (by rw [hb]; exact e),I'.os.trans ho,I'.gens⟩
   exact postW_of (show WShape.has l.row.records (.bool true) .bool=true by simp [WShape.has,WShape.arms]) (w_eq_bool (w_res rfl) w_lit) rfl
end
end
end Mine
set_option Elab.async false
set_option maxHeartbeats 0
namespace Mine
open PySem PySem.W PyProof.Rows
theorem oL (l:List Char):Str.ofString (String.ofList l)=⟨(l.map Char.toNat).toArray⟩:=Fast.ofString_ofList l
noncomputable abbrev TG:Type:=∀ (_ _ _ _ _ _ _ _ _ _ _ _ _ _ _ _ _ _ _ _ _ _ _ _ _ _ _ _ _ _ _ _ _ _ _ _ _ _ _ _ _ _ _ _ _ _ _ _ _ _ _ _ _ _ _ _ _ _ _ _ _ _ _ _ _ _ _ _ _ _ _ _ _ _ _ _ _ _ _ _ _ _ _ _ _ _ _ _ _ _ _ _ _ _ _ _ _ _ _ _ _ _ _ _ _ _ _ _ _ _ _ _ _ _ _ _ _ _ _ _ _ _ _ _ _ _ _ _ _ _ _ _ _ _ _ _ _ _ _ _ _ _ _ _ _:Str),Program
open Str in
structure PG (F:TG):Prop where
 h:PySem.Challenge.pw_uf050020_14=F (ofString "_law_first") (ofString "_law_script") (ofString "_law_cell") (ofString "_law_cell_at") (ofString "_law_many") (ofString "put") (ofString "_law_k") (ofString "_law_value") (ofString "range") (ofString ".0") (ofString "fast") (ofString "_law_deeds") (ofString "_law_deeds_here") (ofString "_law_plain") (ofString "sorted") (ofString "_law_deed") (ofString "min") (ofString "len") (ofString "_law_room") (ofString "_law_deeds_by") (ofString "_law_one") (ofString "append") (ofString "_law_behind") (ofString "_law_fill") (ofString "_law_store") (ofString "take") (ofString "NoThing") (ofString "_law_order") (ofString "_law_draw") (ofString "_law_ranked") (ofString "_law_other") (ofString "Store") (ofString "_law_bound") (ofString "_law_known") (ofString "_law_more") (ofString "_law_name_here") (ofString "law") (ofString "read") (ofString "written") (ofString "_law_other_here") (ofString "_law_rooms") (ofString "_law_room_here") (ofString "list") (ofString "rooms") (ofString "_law_board") (ofString "board") (ofString "depth") (ofString "things") (ofString "_law_mine") (ofString "x") (ofString "_law_kept") (ofString "_law_things") (ofString "_law_name") (ofString "_law_kind") (ofString "_law_j") (ofString "_law_found") (ofString "text") (ofString "rows") (ofString "split") (ofString "\n") (ofString "bound ") (ofString "NoStore") (ofString "no bound") (ofString "bound") (ofString "number_of") (ofString "store") (ofString "row") (ofString "words") (ofString " ") (ofString "word") (ofString "parts") (ofString "=") (ofString "no thing") (ofString "name") (ofString "no name") (ofString "not written so") (ofString "__name__") (ofString "law_uf050020_14") (ofString "_law_whole") (ofString "isinstance") (ofString "int") (ofString "bool") (ofString "_law_frame") (ofString "splitrooms.stores") (ofString "__init__") (ofString "self") (ofString "BadBound") (ofString "held") (ofString "value") (ofString "need_name") (ofString "before") (ofString "value_in") (ofString "with_thing") (ofString "no value") (ofString "without_thing") (ofString "find") (ofString "_wall") (ofString "look") (ofString "size") (ofString "max") (ofString "room") (ofString "every") (ofString "rooms_for") (ofString "found") (ofString "places_of") (ofString "bits") (ofString "startswith") (ofString "splitrooms.notes") (ofString "str") (ofString "thing") (ofString ":") (ofString "") (ofString "join") (ofString "most") (ofString "figures") (ofString "-") (ofString "no number") (ofString "sign") (ofString "0123456789") (ofString "ahead") (ofString "parted") (ofString "at") (ofString "first") (ofString "signs") (ofString "0") (ofString "last") (ofString "1") (ofString "waiting") (ofString "pop") (ofString "both") (ofString "SIGNS") (ofString "BadName") (ofString "mixed") (ofString "number") (ofString "place") (ofString "splitrooms.rooms") (ofString "RoomError") (ofString "splitrooms.mixing") (ofString "k") (ofString "splitrooms.boards") (ofString "turn") (ofString "longer") (ofString "splitrooms.errors") (ofString "ValueError") (ofString "/claim/cut.py")
open Str in
noncomputable def vI:TG:=by
 refine (?k:PG ?F→TG) ⟨?h⟩
 case h=>
  dsimp only [PySem.Challenge.pw_uf050020_14]
  generalize ofString "_law_first" =x0,ofString "_law_script" =x1,ofString "_law_cell" =x2,ofString "_law_cell_at" =x3,ofString "_law_many" =x4,ofString "put" =x5,ofString "_law_k" =x6,ofString "_law_value" =x7,ofString "range" =x8,ofString ".0" =x9,ofString "fast" =x10,ofString "_law_deeds" =x11,ofString "_law_deeds_here" =x12,ofString "_law_plain" =x13,ofString "sorted" =x14,ofString "_law_deed" =x15,ofString "min" =x16,ofString "len" =x17,ofString "_law_room" =x18,ofString "_law_deeds_by" =x19,ofString "_law_one" =x20,ofString "append" =x21,ofString "_law_behind" =x22,ofString "_law_fill" =x23,ofString "_law_store" =x24,ofString "take" =x25,ofString "NoThing" =x26,ofString "_law_order" =x27,ofString "_law_draw" =x28,ofString "_law_ranked" =x29,ofString "_law_other" =x30,ofString "Store" =x31,ofString "_law_bound" =x32,ofString "_law_known" =x33,ofString "_law_more" =x34,ofString "_law_name_here" =x35,ofString "law" =x36,ofString "read" =x37,ofString "written" =x38,ofString "_law_other_here" =x39,ofString "_law_rooms" =x40,ofString "_law_room_here" =x41,ofString "list" =x42,ofString "rooms" =x43,ofString "_law_board" =x44,ofString "board" =x45,ofString "depth" =x46,ofString "things" =x47,ofString "_law_mine" =x48,ofString "x" =x49,ofString "_law_kept" =x50,ofString "_law_things" =x51,ofString "_law_name" =x52,ofString "_law_kind" =x53,ofString "_law_j" =x54,ofString "_law_found" =x55,ofString "text" =x56,ofString "rows" =x57,ofString "split" =x58,ofString "\n" =x59,ofString "bound " =x60,ofString "NoStore" =x61,ofString "no bound" =x62,ofString "bound" =x63,ofString "number_of" =x64,ofString "store" =x65,ofString "row" =x66,ofString "words" =x67,ofString " " =x68,ofString "word" =x69,ofString "parts" =x70,ofString "=" =x71,ofString "no thing" =x72,ofString "name" =x73,ofString "no name" =x74,ofString "not written so" =x75,ofString "__name__" =x76,ofString "law_uf050020_14" =x77,ofString "_law_whole" =x78,ofString "isinstance" =x79,ofString "int" =x80,ofString "bool" =x81,ofString "_law_frame" =x82,ofString "splitrooms.stores" =x83,ofString "__init__" =x84,ofString "self" =x85,ofString "BadBound" =x86,ofString "held" =x87,ofString "value" =x88,ofString "need_name" =x89,ofString "before" =x90,ofString "value_in" =x91,ofString "with_thing" =x92,ofString "no value" =x93,ofString "without_thing" =x94,ofString "find" =x95,ofString "_wall" =x96,ofString "look" =x97,ofString "size" =x98,ofString "max" =x99,ofString "room" =x100,ofString "every" =x101,ofString "rooms_for" =x102,ofString "found" =x103,ofString "places_of" =x104,ofString "bits" =x105,ofString "startswith" =x106,ofString "splitrooms.notes" =x107,ofString "str" =x108,ofString "thing" =x109,ofString ":" =x110,ofString "" =x111,ofString "join" =x112,ofString "most" =x113,ofString "figures" =x114,ofString "-" =x115,ofString "no number" =x116,ofString "sign" =x117,ofString "0123456789" =x118,ofString "ahead" =x119,ofString "parted" =x120,ofString "at" =x121,ofString "first" =x122,ofString "signs" =x123,ofString "0" =x124,ofString "last" =x125,ofString "1" =x126,ofString "waiting" =x127,ofString "pop" =x128,ofString "both" =x129,ofString "SIGNS" =x130,ofString "BadName" =x131,ofString "mixed" =x132,ofString "number" =x133,ofString "place" =x134,ofString "splitrooms.rooms" =x135,ofString "RoomError" =x136,ofString "splitrooms.mixing" =x137,ofString "k" =x138,ofString "splitrooms.boards" =x139,ofString "turn" =x140,ofString "longer" =x141,ofString "splitrooms.errors" =x142,ofString "ValueError" =x143,ofString "/claim/cut.py" =x144
  rfl
 case k=>exact fun _=>?F
theorem progG_ok:PG vI:=⟨rfl⟩
noncomputable def z0:Str:=⟨⟨[95,108,97,119,95,102,105,114,115,116]⟩⟩
noncomputable def z1:Str:=⟨⟨[95,108,97,119,95,115,99,114,105,112,116]⟩⟩
noncomputable def z2:Str:=⟨⟨[95,108,97,119,95,99,101,108,108]⟩⟩
noncomputable def z3:Str:=⟨⟨[95,108,97,119,95,99,101,108,108,95,97,116]⟩⟩
noncomputable def z4:Str:=⟨⟨[95,108,97,119,95,109,97,110,121]⟩⟩
noncomputable def z5:Str:=⟨⟨[112,117,116]⟩⟩
noncomputable def z6:Str:=⟨⟨[95,108,97,119,95,107]⟩⟩
noncomputable def z7:Str:=⟨⟨[95,108,97,119,95,118,97,108,117,101]⟩⟩
noncomputable def z8:Str:=⟨⟨[114,97,110,103,101]⟩⟩
noncomputable def z9:Str:=⟨⟨[46,48]⟩⟩
noncomputable def z10:Str:=⟨⟨[102,97,115,116]⟩⟩
noncomputable def z11:Str:=⟨⟨[95,108,97,119,95,100,101,101,100,115]⟩⟩
noncomputable def z12:Str:=⟨⟨[95,108,97,119,95,100,101,101,100,115,95,104,101,114,101]⟩⟩
noncomputable def z13:Str:=⟨⟨[95,108,97,119,95,112,108,97,105,110]⟩⟩
noncomputable def z14:Str:=⟨⟨[115,111,114,116,101,100]⟩⟩
noncomputable def z15:Str:=⟨⟨[95,108,97,119,95,100,101,101,100]⟩⟩
noncomputable def z16:Str:=⟨⟨[109,105,110]⟩⟩
noncomputable def z17:Str:=⟨⟨[108,101,110]⟩⟩
noncomputable def z18:Str:=⟨⟨[95,108,97,119,95,114,111,111,109]⟩⟩
noncomputable def z19:Str:=⟨⟨[95,108,97,119,95,100,101,101,100,115,95,98,121]⟩⟩
noncomputable def z20:Str:=⟨⟨[95,108,97,119,95,111,110,101]⟩⟩
noncomputable def z21:Str:=⟨⟨[97,112,112,101,110,100]⟩⟩
noncomputable def z22:Str:=⟨⟨[95,108,97,119,95,98,101,104,105,110,100]⟩⟩
noncomputable def z23:Str:=⟨⟨[95,108,97,119,95,102,105,108,108]⟩⟩
noncomputable def z24:Str:=⟨⟨[95,108,97,119,95,115,116,111,114,101]⟩⟩
noncomputable def z25:Str:=⟨⟨[116,97,107,101]⟩⟩
noncomputable def z26:Str:=⟨⟨[78,111,84,104,105,110,103]⟩⟩
noncomputable def z27:Str:=⟨⟨[95,108,97,119,95,111,114,100,101,114]⟩⟩
noncomputable def z28:Str:=⟨⟨[95,108,97,119,95,100,114,97,119]⟩⟩
noncomputable def z29:Str:=⟨⟨[95,108,97,119,95,114,97,110,107,101,100]⟩⟩
noncomputable def z30:Str:=⟨⟨[95,108,97,119,95,111,116,104,101,114]⟩⟩
noncomputable def z31:Str:=⟨⟨[83,116,111,114,101]⟩⟩
noncomputable def z32:Str:=⟨⟨[95,108,97,119,95,98,111,117,110,100]⟩⟩
noncomputable def z33:Str:=⟨⟨[95,108,97,119,95,107,110,111,119,110]⟩⟩
noncomputable def z34:Str:=⟨⟨[95,108,97,119,95,109,111,114,101]⟩⟩
noncomputable def z35:Str:=⟨⟨[95,108,97,119,95,110,97,109,101,95,104,101,114,101]⟩⟩
noncomputable def z36:Str:=⟨⟨[108,97,119]⟩⟩
noncomputable def z37:Str:=⟨⟨[114,101,97,100]⟩⟩
noncomputable def z38:Str:=⟨⟨[119,114,105,116,116,101,110]⟩⟩
noncomputable def z39:Str:=⟨⟨[95,108,97,119,95,111,116,104,101,114,95,104,101,114,101]⟩⟩
noncomputable def z40:Str:=⟨⟨[95,108,97,119,95,114,111,111,109,115]⟩⟩
noncomputable def z41:Str:=⟨⟨[95,108,97,119,95,114,111,111,109,95,104,101,114,101]⟩⟩
noncomputable def z42:Str:=⟨⟨[108,105,115,116]⟩⟩
noncomputable def z43:Str:=⟨⟨[114,111,111,109,115]⟩⟩
noncomputable def z44:Str:=⟨⟨[95,108,97,119,95,98,111,97,114,100]⟩⟩
noncomputable def z45:Str:=⟨⟨[98,111,97,114,100]⟩⟩
noncomputable def z46:Str:=⟨⟨[100,101,112,116,104]⟩⟩
noncomputable def z47:Str:=⟨⟨[116,104,105,110,103,115]⟩⟩
noncomputable def z48:Str:=⟨⟨[95,108,97,119,95,109,105,110,101]⟩⟩
noncomputable def z49:Str:=⟨⟨[120]⟩⟩
noncomputable def z50:Str:=⟨⟨[95,108,97,119,95,107,101,112,116]⟩⟩
noncomputable def z51:Str:=⟨⟨[95,108,97,119,95,116,104,105,110,103,115]⟩⟩
noncomputable def z52:Str:=⟨⟨[95,108,97,119,95,110,97,109,101]⟩⟩
noncomputable def z53:Str:=⟨⟨[95,108,97,119,95,107,105,110,100]⟩⟩
noncomputable def z54:Str:=⟨⟨[95,108,97,119,95,106]⟩⟩
noncomputable def z55:Str:=⟨⟨[95,108,97,119,95,102,111,117,110,100]⟩⟩
noncomputable def z56:Str:=⟨⟨[116,101,120,116]⟩⟩
noncomputable def z57:Str:=⟨⟨[114,111,119,115]⟩⟩
noncomputable def z58:Str:=⟨⟨[115,112,108,105,116]⟩⟩
noncomputable def z59:Str:=⟨⟨[10]⟩⟩
noncomputable def z60:Str:=⟨⟨[98,111,117,110,100,32]⟩⟩
noncomputable def z61:Str:=⟨⟨[78,111,83,116,111,114,101]⟩⟩
noncomputable def z62:Str:=⟨⟨[110,111,32,98,111,117,110,100]⟩⟩
noncomputable def z63:Str:=⟨⟨[98,111,117,110,100]⟩⟩
noncomputable def z64:Str:=⟨⟨[110,117,109,98,101,114,95,111,102]⟩⟩
noncomputable def z65:Str:=⟨⟨[115,116,111,114,101]⟩⟩
noncomputable def z66:Str:=⟨⟨[114,111,119]⟩⟩
noncomputable def z67:Str:=⟨⟨[119,111,114,100,115]⟩⟩
noncomputable def z68:Str:=⟨⟨[32]⟩⟩
noncomputable def z69:Str:=⟨⟨[119,111,114,100]⟩⟩
noncomputable def z70:Str:=⟨⟨[112,97,114,116,115]⟩⟩
noncomputable def z71:Str:=⟨⟨[61]⟩⟩
noncomputable def z72:Str:=⟨⟨[110,111,32,116,104,105,110,103]⟩⟩
noncomputable def z73:Str:=⟨⟨[110,97,109,101]⟩⟩
noncomputable def z74:Str:=⟨⟨[110,111,32,110,97,109,101]⟩⟩
noncomputable def z75:Str:=⟨⟨[110,111,116,32,119,114,105,116,116,101,110,32,115,111]⟩⟩
noncomputable def z76:Str:=⟨⟨[95,95,110,97,109,101,95,95]⟩⟩
noncomputable def z77:Str:=⟨⟨[108,97,119,95,117,102,48,53,48,48,50,48,95,49,52]⟩⟩
noncomputable def z78:Str:=⟨⟨[95,108,97,119,95,119,104,111,108,101]⟩⟩
noncomputable def z79:Str:=⟨⟨[105,115,105,110,115,116,97,110,99,101]⟩⟩
noncomputable def z80:Str:=⟨⟨[105,110,116]⟩⟩
noncomputable def z81:Str:=⟨⟨[98,111,111,108]⟩⟩
noncomputable def z82:Str:=⟨⟨[95,108,97,119,95,102,114,97,109,101]⟩⟩
noncomputable def z83:Str:=⟨⟨[115,112,108,105,116,114,111,111,109,115,46,115,116,111,114,101,115]⟩⟩
noncomputable def z84:Str:=⟨⟨[95,95,105,110,105,116,95,95]⟩⟩
noncomputable def z85:Str:=⟨⟨[115,101,108,102]⟩⟩
noncomputable def z86:Str:=⟨⟨[66,97,100,66,111,117,110,100]⟩⟩
noncomputable def z87:Str:=⟨⟨[104,101,108,100]⟩⟩
noncomputable def z88:Str:=⟨⟨[118,97,108,117,101]⟩⟩
noncomputable def z89:Str:=⟨⟨[110,101,101,100,95,110,97,109,101]⟩⟩
noncomputable def z90:Str:=⟨⟨[98,101,102,111,114,101]⟩⟩
noncomputable def z91:Str:=⟨⟨[118,97,108,117,101,95,105,110]⟩⟩
noncomputable def z92:Str:=⟨⟨[119,105,116,104,95,116,104,105,110,103]⟩⟩
noncomputable def z93:Str:=⟨⟨[110,111,32,118,97,108,117,101]⟩⟩
noncomputable def z94:Str:=⟨⟨[119,105,116,104,111,117,116,95,116,104,105,110,103]⟩⟩
noncomputable def z95:Str:=⟨⟨[102,105,110,100]⟩⟩
noncomputable def z96:Str:=⟨⟨[95,119,97,108,108]⟩⟩
noncomputable def z97:Str:=⟨⟨[108,111,111,107]⟩⟩
noncomputable def z98:Str:=⟨⟨[115,105,122,101]⟩⟩
noncomputable def z99:Str:=⟨⟨[109,97,120]⟩⟩
noncomputable def Cu:Str:=⟨⟨[114,111,111,109]⟩⟩
noncomputable def Ct:Str:=⟨⟨[101,118,101,114,121]⟩⟩
noncomputable def pT:Str:=⟨⟨[114,111,111,109,115,95,102,111,114]⟩⟩
noncomputable def AR:Str:=⟨⟨[102,111,117,110,100]⟩⟩
noncomputable def kr:Str:=⟨⟨[112,108,97,99,101,115,95,111,102]⟩⟩
noncomputable def Cs:Str:=⟨⟨[98,105,116,115]⟩⟩
noncomputable def Cr:Str:=⟨⟨[115,116,97,114,116,115,119,105,116,104]⟩⟩
noncomputable def xz:Str:=⟨⟨[115,112,108,105,116,114,111,111,109,115,46,110,111,116,101,115]⟩⟩
noncomputable def Cq:Str:=⟨⟨[115,116,114]⟩⟩
noncomputable def AQ:Str:=⟨⟨[116,104,105,110,103]⟩⟩
noncomputable def Cp:Str:=⟨⟨[58]⟩⟩
noncomputable def Co:Str:=⟨⟨[]⟩⟩
noncomputable def Cn:Str:=⟨⟨[106,111,105,110]⟩⟩
noncomputable def AP:Str:=⟨⟨[109,111,115,116]⟩⟩
noncomputable def AO:Str:=⟨⟨[102,105,103,117,114,101,115]⟩⟩
noncomputable def Cm:Str:=⟨⟨[45]⟩⟩
noncomputable def Ck:Str:=⟨⟨[110,111,32,110,117,109,98,101,114]⟩⟩
noncomputable def AN:Str:=⟨⟨[115,105,103,110]⟩⟩
noncomputable def Cj:Str:=⟨⟨[48,49,50,51,52,53,54,55,56,57]⟩⟩
noncomputable def Ci:Str:=⟨⟨[97,104,101,97,100]⟩⟩
noncomputable def pS:Str:=⟨⟨[112,97,114,116,101,100]⟩⟩
noncomputable def Ch:Str:=⟨⟨[97,116]⟩⟩
noncomputable def Cg:Str:=⟨⟨[102,105,114,115,116]⟩⟩
noncomputable def oH:Str:=⟨⟨[115,105,103,110,115]⟩⟩
noncomputable def Cf:Str:=⟨⟨[48]⟩⟩
noncomputable def Ce:Str:=⟨⟨[108,97,115,116]⟩⟩
noncomputable def Cd:Str:=⟨⟨[49]⟩⟩
noncomputable def Cc:Str:=⟨⟨[119,97,105,116,105,110,103]⟩⟩
noncomputable def Cb:Str:=⟨⟨[112,111,112]⟩⟩
noncomputable def Ca:Str:=⟨⟨[98,111,116,104]⟩⟩
noncomputable def uB:Str:=⟨⟨[83,73,71,78,83]⟩⟩
noncomputable def kq:Str:=⟨⟨[66,97,100,78,97,109,101]⟩⟩
noncomputable def oG:Str:=⟨⟨[109,105,120,101,100]⟩⟩
noncomputable def AM:Str:=⟨⟨[110,117,109,98,101,114]⟩⟩
noncomputable def AL:Str:=⟨⟨[112,108,97,99,101]⟩⟩
noncomputable def tQ:Str:=⟨⟨[115,112,108,105,116,114,111,111,109,115,46,114,111,111,109,115]⟩⟩
noncomputable def dS:Str:=⟨⟨[82,111,111,109,69,114,114,111,114]⟩⟩
noncomputable def xy:Str:=⟨⟨[115,112,108,105,116,114,111,111,109,115,46,109,105,120,105,110,103]⟩⟩
noncomputable def AK:Str:=⟨⟨[107]⟩⟩
noncomputable def AJ:Str:=⟨⟨[115,112,108,105,116,114,111,111,109,115,46,98,111,97,114,100,115]⟩⟩
noncomputable def AI:Str:=⟨⟨[116,117,114,110]⟩⟩
noncomputable def AH:Str:=⟨⟨[108,111,110,103,101,114]⟩⟩
noncomputable def iP:Str:=⟨⟨[115,112,108,105,116,114,111,111,109,115,46,101,114,114,111,114,115]⟩⟩
noncomputable def BZ:Str:=⟨⟨[86,97,108,117,101,69,114,114,111,114]⟩⟩
noncomputable def aO:Str:=⟨⟨[47,99,108,97,105,109,47,99,117,116,46,112,121]⟩⟩
noncomputable def prog:Program:=vI z0 z1 z2 z3 z4 z5 z6 z7 z8 z9 z10 z11 z12 z13 z14 z15 z16 z17 z18 z19 z20 z21 z22 z23 z24 z25 z26 z27 z28 z29 z30 z31 z32 z33 z34 z35 z36 z37 z38 z39 z40 z41 z42 z43 z44 z45 z46 z47 z48 z49 z50 z51 z52 z53 z54 z55 z56 z57 z58 z59 z60 z61 z62 z63 z64 z65 z66 z67 z68 z69 z70 z71 z72 z73 z74 z75 z76 z77 z78 z79 z80 z81 z82 z83 z84 z85 z86 z87 z88 z89 z90 z91 z92 z93 z94 z95 z96 z97 z98 z99 Cu Ct pT AR kr Cs Cr xz Cq AQ Cp Co Cn AP AO Cm Ck AN Cj Ci pS Ch Cg oH Cf Ce Cd Cc Cb Ca uB kq oG AM AL tQ dS xy AK AJ AI AH iP BZ aO
theorem vH:PySem.Challenge.pw_uf050020_14=prog:=progG_ok.h.trans (congr (congr (congr (congr (congr (congr (congr (congr (congr (congr (congr (congr (congr (congr (congr (congr (congr (congr (congr (congr (congr (congr (congr (congr (congr (congr (congr (congr (congr (congr (congr (congr (congr (congr (congr (congr (congr (congr (congr (congr (congr (congr (congr (congr (congr (congr (congr (congr (congr (congr (congr (congr (congr (congr (congr (congr (congr (congr (congr (congr (congr (congr (congr (congr (congr (congr (congr (congr (congr (congr (congr (congr (congr (congr (congr (congr (congr (congr (congr (congr (congr (congr (congr (congr (congr (congr (congr (congr (congr (congr (congr (congr (congr (congr (congr (congr (congr (congr (congr (congr (congr (congr (congr (congr (congr (congr (congr (congr (congr (congr (congr (congr (congr (congr (congr (congr (congr (congr (congr (congr (congr (congr (congr (congr (congr (congr (congr (congr (congr (congr (congr (congr (congr (congr (congr (congr (congr (congr (congr (congr (congr (congr (congr (congr (congrArg vI (oL ['_','l','a','w','_','f','i','r','s','t']:_=z0)) (oL ['_','l','a','w','_','s','c','r','i','p','t']:_=z1)) (oL ['_','l','a','w','_','c','e','l','l']:_=z2)) (oL ['_','l','a','w','_','c','e','l','l','_','a','t']:_=z3)) (oL ['_','l','a','w','_','m','a','n','y']:_=z4)) (oL ['p','u','t']:_=z5)) (oL ['_','l','a','w','_','k']:_=z6)) (oL ['_','l','a','w','_','v','a','l','u','e']:_=z7)) (oL ['r','a','n','g','e']:_=z8)) (oL ['.','0']:_=z9)) (oL ['f','a','s','t']:_=z10)) (oL ['_','l','a','w','_','d','e','e','d','s']:_=z11)) (oL ['_','l','a','w','_','d','e','e','d','s','_','h','e','r','e']:_=z12)) (oL ['_','l','a','w','_','p','l','a','i','n']:_=z13)) (oL ['s','o','r','t','e','d']:_=z14)) (oL ['_','l','a','w','_','d','e','e','d']:_=z15)) (oL ['m','i','n']:_=z16)) (oL ['l','e','n']:_=z17)) (oL ['_','l','a','w','_','r','o','o','m']:_=z18)) (oL ['_','l','a','w','_','d','e','e','d','s','_','b','y']:_=z19)) (oL ['_','l','a','w','_','o','n','e']:_=z20)) (oL ['a','p','p','e','n','d']:_=z21)) (oL ['_','l','a','w','_','b','e','h','i','n','d']:_=z22)) (oL ['_','l','a','w','_','f','i','l','l']:_=z23)) (oL ['_','l','a','w','_','s','t','o','r','e']:_=z24)) (oL ['t','a','k','e']:_=z25)) (oL ['N','o','T','h','i','n','g']:_=z26)) (oL ['_','l','a','w','_','o','r','d','e','r']:_=z27)) (oL ['_','l','a','w','_','d','r','a','w']:_=z28)) (oL ['_','l','a','w','_','r','a','n','k','e','d']:_=z29)) (oL ['_','l','a','w','_','o','t','h','e','r']:_=z30)) (oL ['S','t','o','r','e']:_=z31)) (oL ['_','l','a','w','_','b','o','u','n','d']:_=z32)) (oL ['_','l','a','w','_','k','n','o','w','n']:_=z33)) (oL ['_','l','a','w','_','m','o','r','e']:_=z34)) (oL ['_','l','a','w','_','n','a','m','e','_','h','e','r','e']:_=z35)) (oL ['l','a','w']:_=z36)) (oL ['r','e','a','d']:_=z37)) (oL ['w','r','i','t','t','e','n']:_=z38)) (oL ['_','l','a','w','_','o','t','h','e','r','_','h','e','r','e']:_=z39)) (oL ['_','l','a','w','_','r','o','o','m','s']:_=z40)) (oL ['_','l','a','w','_','r','o','o','m','_','h','e','r','e']:_=z41)) (oL ['l','i','s','t']:_=z42)) (oL ['r','o','o','m','s']:_=z43)) (oL ['_','l','a','w','_','b','o','a','r','d']:_=z44)) (oL ['b','o','a','r','d']:_=z45)) (oL ['d','e','p','t','h']:_=z46)) (oL ['t','h','i','n','g','s']:_=z47)) (oL ['_','l','a','w','_','m','i','n','e']:_=z48)) (oL ['x']:_=z49)) (oL ['_','l','a','w','_','k','e','p','t']:_=z50)) (oL ['_','l','a','w','_','t','h','i','n','g','s']:_=z51)) (oL ['_','l','a','w','_','n','a','m','e']:_=z52)) (oL ['_','l','a','w','_','k','i','n','d']:_=z53)) (oL ['_','l','a','w','_','j']:_=z54)) (oL ['_','l','a','w','_','f','o','u','n','d']:_=z55)) (oL ['t','e','x','t']:_=z56)) (oL ['r','o','w','s']:_=z57)) (oL ['s','p','l','i','t']:_=z58)) (oL ['\n']:_=z59)) (oL ['b','o','u','n','d',' ']:_=z60)) (oL ['N','o','S','t','o','r','e']:_=z61)) (oL ['n','o',' ','b','o','u','n','d']:_=z62)) (oL ['b','o','u','n','d']:_=z63)) (oL ['n','u','m','b','e','r','_','o','f']:_=z64)) (oL ['s','t','o','r','e']:_=z65)) (oL ['r','o','w']:_=z66)) (oL ['w','o','r','d','s']:_=z67)) (oL [' ']:_=z68)) (oL ['w','o','r','d']:_=z69)) (oL ['p','a','r','t','s']:_=z70)) (oL ['=']:_=z71)) (oL ['n','o',' ','t','h','i','n','g']:_=z72)) (oL ['n','a','m','e']:_=z73)) (oL ['n','o',' ','n','a','m','e']:_=z74)) (oL ['n','o','t',' ','w','r','i','t','t','e','n',' ','s','o']:_=z75)) (oL ['_','_','n','a','m','e','_','_']:_=z76)) (oL ['l','a','w','_','u','f','0','5','0','0','2','0','_','1','4']:_=z77)) (oL ['_','l','a','w','_','w','h','o','l','e']:_=z78)) (oL ['i','s','i','n','s','t','a','n','c','e']:_=z79)) (oL ['i','n','t']:_=z80)) (oL ['b','o','o','l']:_=z81)) (oL ['_','l','a','w','_','f','r','a','m','e']:_=z82)) (oL ['s','p','l','i','t','r','o','o','m','s','.','s','t','o','r','e','s']:_=z83)) (oL ['_','_','i','n','i','t','_','_']:_=z84)) (oL ['s','e','l','f']:_=z85)) (oL ['B','a','d','B','o','u','n','d']:_=z86)) (oL ['h','e','l','d']:_=z87)) (oL ['v','a','l','u','e']:_=z88)) (oL ['n','e','e','d','_','n','a','m','e']:_=z89)) (oL ['b','e','f','o','r','e']:_=z90)) (oL ['v','a','l','u','e','_','i','n']:_=z91)) (oL ['w','i','t','h','_','t','h','i','n','g']:_=z92)) (oL ['n','o',' ','v','a','l','u','e']:_=z93)) (oL ['w','i','t','h','o','u','t','_','t','h','i','n','g']:_=z94)) (oL ['f','i','n','d']:_=z95)) (oL ['_','w','a','l','l']:_=z96)) (oL ['l','o','o','k']:_=z97)) (oL ['s','i','z','e']:_=z98)) (oL ['m','a','x']:_=z99)) (oL ['r','o','o','m']:_=Cu)) (oL ['e','v','e','r','y']:_=Ct)) (oL ['r','o','o','m','s','_','f','o','r']:_=pT)) (oL ['f','o','u','n','d']:_=AR)) (oL ['p','l','a','c','e','s','_','o','f']:_=kr)) (oL ['b','i','t','s']:_=Cs)) (oL ['s','t','a','r','t','s','w','i','t','h']:_=Cr)) (oL ['s','p','l','i','t','r','o','o','m','s','.','n','o','t','e','s']:_=xz)) (oL ['s','t','r']:_=Cq)) (oL ['t','h','i','n','g']:_=AQ)) (oL [':']:_=Cp)) (oL []:_=Co)) (oL ['j','o','i','n']:_=Cn)) (oL ['m','o','s','t']:_=AP)) (oL ['f','i','g','u','r','e','s']:_=AO)) (oL ['-']:_=Cm)) (oL ['n','o',' ','n','u','m','b','e','r']:_=Ck)) (oL ['s','i','g','n']:_=AN)) (oL ['0','1','2','3','4','5','6','7','8','9']:_=Cj)) (oL ['a','h','e','a','d']:_=Ci)) (oL ['p','a','r','t','e','d']:_=pS)) (oL ['a','t']:_=Ch)) (oL ['f','i','r','s','t']:_=Cg)) (oL ['s','i','g','n','s']:_=oH)) (oL ['0']:_=Cf)) (oL ['l','a','s','t']:_=Ce)) (oL ['1']:_=Cd)) (oL ['w','a','i','t','i','n','g']:_=Cc)) (oL ['p','o','p']:_=Cb)) (oL ['b','o','t','h']:_=Ca)) (oL ['S','I','G','N','S']:_=uB)) (oL ['B','a','d','N','a','m','e']:_=kq)) (oL ['m','i','x','e','d']:_=oG)) (oL ['n','u','m','b','e','r']:_=AM)) (oL ['p','l','a','c','e']:_=AL)) (oL ['s','p','l','i','t','r','o','o','m','s','.','r','o','o','m','s']:_=tQ)) (oL ['R','o','o','m','E','r','r','o','r']:_=dS)) (oL ['s','p','l','i','t','r','o','o','m','s','.','m','i','x','i','n','g']:_=xy)) (oL ['k']:_=AK)) (oL ['s','p','l','i','t','r','o','o','m','s','.','b','o','a','r','d','s']:_=AJ)) (oL ['t','u','r','n']:_=AI)) (oL ['l','o','n','g','e','r']:_=AH)) (oL ['s','p','l','i','t','r','o','o','m','s','.','e','r','r','o','r','s']:_=iP)) (oL ['V','a','l','u','e','E','r','r','o','r']:_=BZ)) (oL ['/','c','l','a','i','m','/','c','u','t','.','p','y']:_=aO))
noncomputable def lawT:OpenLaw:={ prog:=prog,name:=z36,about:=[z31,z5],foot:=14,most:=some 63,bound:=none,writes:=false }
theorem zb:PySem.Challenge.rw_uf050020_14=lawT:=by
 unfold PySem.Challenge.rw_uf050020_14 lawT
 rw [vH,(Fast.ofString_ofList ['l','a','w']:Str.ofString "law" =z36),(Fast.ofString_ofList ['S','t','o','r','e']:Str.ofString "Store" =z31),(Fast.ofString_ofList ['p','u','t']:Str.ofString "put" =z5)]
 rfl
noncomputable def y0:String:=SL.s2766695959194262286x5
noncomputable def y1:String:=SL.s5856160107412720595x4
noncomputable def y2:String:=SL.s7174869446012820540x8
noncomputable def y3:String:=SL.s14018661285674007319x4
noncomputable def y4:String:=SL.s17162191345867700912x4
noncomputable def y5:String:=SL.s6070975301684473832x10
noncomputable def dE (P:Params) (s:Str) (t:Nat) (v:Value):DictEntry:=⟨PyData.keyHash P s,.str s t,v⟩
noncomputable def lf (o:Obj):W.BT:=.node o .nil .nil
noncomputable def Cv:Pos:=⟨0,0,0,0⟩
noncomputable def st (i:Nat):Stmt:=(prog.main.body[i]?).getD (.Pass Cv)
noncomputable def fA (s:Stmt):Arguments:=match s with
 | .FunctionDef _ a _ _ _ _ _ _ _ _=>a
 | _=>⟨[],[],none,[],[],none,[]⟩
noncomputable def fB (s:Stmt):List Stmt:=match s with
 | .FunctionDef _ _ b _ _ _ _ _ _ _=>b
 | .ClassDef _ _ _ b _ _ _ _ _ _ _=>b
 | _=>[]
noncomputable def fS (s:Stmt):Scope:=match s with
 | .FunctionDef _ _ _ _ _ _ s _ _ _=>s
 | _=>prog.main.scope
noncomputable def stC (i j:Nat):Stmt:=((fB (st i))[j]?).getD (.Pass Cv)
noncomputable def q0:Str:=⟨⟨[95,95,97,110,110,111,116,97,116,105,111,110,115,95,95]⟩⟩
noncomputable def q11:Str:=⟨⟨[83,116,111,114,101,46,116,97,107,101]⟩⟩
noncomputable def q20:Str:=⟨⟨[83,116,111,114,101,46,95,95,105,110,105,116,95,95]⟩⟩
noncomputable def q25:Str:=⟨⟨[83,116,111,114,101,46,114,111,111,109,115]⟩⟩
noncomputable def q38:Str:=⟨⟨[83,116,111,114,101,46,100,101,112,116,104]⟩⟩
noncomputable def q41:Str:=⟨⟨[95,95,100,105,99,116,95,95]⟩⟩
noncomputable def q52:Str:=⟨⟨[95,95,100,111,99,95,95]⟩⟩
noncomputable def q53:Str:=⟨⟨[95,95,112,97,99,107,97,103,101,95,95]⟩⟩
noncomputable def q54:Str:=⟨⟨[95,95,108,111,97,100,101,114,95,95]⟩⟩
noncomputable def q55:Str:=⟨⟨[95,95,115,112,101,99,95,95]⟩⟩
noncomputable def q56:Str:=⟨⟨[95,95,98,117,105,108,116,105,110,115,95,95]⟩⟩
noncomputable def q57:Str:=⟨⟨[95,95,102,105,108,101,95,95]⟩⟩
noncomputable def q58:Str:=⟨⟨[95,95,99,97,99,104,101,100,95,95]⟩⟩
noncomputable def q62:Str:=⟨⟨[83,116,111,114,101,46,112,117,116]⟩⟩
noncomputable def q65:Str:=⟨⟨[95,95,119,101,97,107,114,101,102,95,95]⟩⟩
noncomputable def q70:Str:=⟨⟨[95,95,109,111,100,117,108,101,95,95]⟩⟩
noncomputable def q71:Str:=⟨⟨[95,95,102,105,114,115,116,108,105,110,101,110,111,95,95]⟩⟩
noncomputable def q72:Str:=⟨⟨[95,95,115,116,97,116,105,99,95,97,116,116,114,105,98,117,116,101,115,95,95]⟩⟩
noncomputable def q74:Str:=⟨⟨[83,116,111,114,101,46,98,111,97,114,100]⟩⟩
noncomputable def q75:Str:=⟨⟨[95,95,109,97,105,110,95,95]⟩⟩
noncomputable def q79:Str:=⟨⟨[83,116,111,114,101,46,116,104,105,110,103,115]⟩⟩
noncomputable def q81:Str:=⟨⟨[83,116,111,114,101,46,115,105,122,101]⟩⟩
noncomputable def q82:Str:=⟨⟨[95,95,113,117,97,108,110,97,109,101,95,95]⟩⟩
noncomputable def q86:Str:=⟨⟨[83,116,111,114,101,46,108,111,111,107]⟩⟩
noncomputable def q87:Str:=⟨⟨[83,116,111,114,101,46,102,105,110,100]⟩⟩
noncomputable def q97:Str:=⟨⟨[60,109,111,100,117,108,101,62]⟩⟩
abbrev OP:=Params→Obj
noncomputable def o43:OP:=fun P=>⟨(.type y0),.none,(.seq ⟨[]⟩ 0),⟨[]⟩⟩
noncomputable def o44:OP:=fun P=>⟨.none,.none,(.fields ⟨[]⟩),⟨[]⟩⟩
noncomputable def o45:OP:=fun P=>⟨(.type y1),.none,(.fields ⟨[(.str q97 182),(.str q97 183),(.str aO 184),(.int 1 0),(.int 0 0),(.int 0 0),(.int 0 0),(.int 0 0),(.ref 11),(.bool .false),(.int 181 0),(.ref 12),.none,.none,.none,.none,(.int 185 0),(.int 1 0),(.str aO 186)]⟩),⟨[]⟩⟩
noncomputable def o46:OP:=fun P=>⟨(.type SL.s658472552662922059x5),.none,.plain,⟨[(.some (.ref 13)),(.some (.ref 3)),(.some (.ref 3)),.none,(.some (.str q75 164)),.none,(.some (.ref 0))]⟩⟩
noncomputable def o49:OP:=fun P=>⟨(.type y3),.none,(.dict ⟨[dE P z76 165 (.str iP 207),dE P q52 166 .none,dE P q53 167 .none,dE P q54 168 (.builtin SL.s7097527257260152453x26),dE P q55 169 .none,dE P q0 170 (.ref 6),dE P q56 171 (.ref 4),dE P q57 173 (.str aO 172),dE P q58 174 .none,dE P z96 193 (.ref 21),dE P kr 206 (.ref 28),dE P dS 226 (.ref 38)]⟩ 12),⟨[]⟩⟩
noncomputable def o50:OP:=fun P=>⟨.none,.none,(.fields ⟨[(.int 1 0),(.int 0 0),(.ref 20),(.int 5 0),(.int 0 0),(.ref 27),(.int 15 0),(.int 0 0),(.ref 34)]⟩),⟨[]⟩⟩
noncomputable def o53:OP:=fun P=>⟨(.type y0),.none,(.seq ⟨[(.str AK 190)]⟩ 0),⟨[]⟩⟩
noncomputable def o55:OP:=fun P=>⟨.none,.none,(.func ⟨z96,z96,(fA (st 0)),(.stmts (fB (st 0))),(fS (st 0)),0,[],.none,.none,.none,.none,.none,.none,.none,0⟩),⟨[]⟩⟩
noncomputable def o56:OP:=fun P=>⟨(.type y1),.none,(.fields ⟨[(.str z96 187),(.str z96 188),(.str aO 189),(.int 1 0),(.int 1 0),(.int 0 0),(.int 0 0),(.int 3 0),(.ref 15),(.bool .true),(.int 181 0),(.ref 16),.none,(.ref 17),(.ref 18),(.ref 19),(.int 191 0),(.int 1 0),(.str aO 192)]⟩),⟨[]⟩⟩
noncomputable def o57:OP:=fun P=>⟨(.type y2),.none,(.func ⟨z96,z96,(fA (st 0)),(.stmts (fB (st 0))),(fS (st 0)),3,[],.none,.none,.none,(.str q75 164),.none,(.ref 20),.none,0⟩),⟨[]⟩⟩
noncomputable def o60:OP:=fun P=>⟨(.type y0),.none,(.seq ⟨[(.str z46 199),(.str AR 200),(.str AI 201),(.str AH 202),(.str z56 203)]⟩ 0),⟨[]⟩⟩
noncomputable def o62:OP:=fun P=>⟨.none,.none,(.func ⟨kr,kr,(fA (st 2)),(.stmts (fB (st 2))),(fS (st 2)),0,[],.none,.none,.none,.none,.none,.none,.none,0⟩),⟨[]⟩⟩
noncomputable def o63:OP:=fun P=>⟨(.type y1),.none,(.fields ⟨[(.str kr 196),(.str kr 197),(.str aO 198),(.int 5 0),(.int 1 0),(.int 0 0),(.int 0 0),(.int 3 0),(.ref 22),(.bool .true),(.int 181 0),(.ref 23),.none,(.ref 24),(.ref 25),(.ref 26),(.int 204 0),(.int 5 0),(.str aO 205)]⟩),⟨[]⟩⟩
noncomputable def o64:OP:=fun P=>⟨(.type y2),.none,(.func ⟨kr,kr,(fA (st 2)),(.stmts (fB (st 2))),(fS (st 2)),3,[],.none,.none,.none,(.str AJ 194),.none,(.ref 27),.none,0⟩),⟨[]⟩⟩
noncomputable def o65:OP:=fun P=>⟨(.type y0),.none,(.seq ⟨[(.type y5)]⟩ 0),⟨[]⟩⟩
noncomputable def o66:OP:=fun P=>⟨(.type SL.s11030030927630378310x26),.none,(.fields ⟨[(.builtin SL.s10062305145149207511x16),(.type y4)]⟩),⟨[]⟩⟩
noncomputable def o67:OP:=fun P=>⟨(.type y3),.none,(.dict ⟨[dE P q70 216 (.str iP 207),dE P q82 218 (.str dS 217),dE P q71 220 (.int 15 219),dE P q72 221 (.ref 36)]⟩ 4),⟨[]⟩⟩
noncomputable def o70:OP:=fun P=>⟨(.type y1),.none,(.fields ⟨[(.str dS 211),(.str dS 212),(.str aO 213),(.int 15 0),(.int 0 0),(.int 0 0),(.int 0 0),(.int 0 0),(.ref 32),(.bool .false),(.int 181 0),(.ref 33),.none,.none,.none,.none,(.int 214 0),(.int 15 0),(.str aO 215)]⟩),⟨[]⟩⟩
noncomputable def o71:OP:=fun P=>⟨(.type SL.s658472552662922059x5),.none,.plain,⟨[(.some (.ref 34)),(.some (.ref 3)),(.some (.ref 31)),.none,(.some (.str iP 207)),.none,(.some (.ref 0))]⟩⟩
noncomputable def o73:OP:=fun P=>⟨(.type y3),.none,(.dict ⟨[dE P q70 216 (.str iP 207),dE P q71 220 (.int 15 219),dE P q72 221 (.ref 36),dE P q65 223 (.ref 39),dE P q52 224 .none]⟩ 3),⟨[]⟩⟩
noncomputable def o74:OP:=fun P=>⟨(.type y4),.none,(.cls ⟨dS,[(.type y5)],[(.ref 38),(.type y5),(.type SL.s5946037652744460706x9),(.type SL.s4278001404047624695x13),(.type SL.s2742458400755230247x6)],37,dS,.true,[],[],.false,.none,.false⟩),⟨[(.some (.ref 29)),.none,(.some (.str dS 209)),(.some (.str dS 217)),(.some (.builtin SL.s4209523147560561109x18)),(.some (.bool .true))]⟩⟩
noncomputable def o75:OP:=fun P=>⟨(.type SL.s14755015743595814543x17),.none,(.fields ⟨[(.str q65 222),(.ref 38),(.builtin SL.s10220274742760427390x26),.none]⟩),⟨[]⟩⟩
noncomputable def o76:OP:=fun P=>⟨(.type SL.s4290257624100764138x5),.none,(.fields ⟨[(.ref 38),(.ref 38),(.ref 38)]⟩),⟨[]⟩⟩
noncomputable def o77:OP:=fun P=>⟨(.type SL.s11030030927630378310x26),.none,(.fields ⟨[(.builtin SL.s4860613602091757760x24),(.ref 38)]⟩),⟨[]⟩⟩
noncomputable def o78:OP:=fun P=>⟨(.type y3),.none,(.dict ⟨[dE P z76 165 (.str iP 207),dE P q52 166 .none,dE P q53 167 .none,dE P q54 168 (.builtin SL.s7097527257260152453x26),dE P q55 169 .none,dE P q0 170 (.ref 6),dE P q56 171 (.ref 4),dE P q57 173 (.str aO 172),dE P q58 174 .none,dE P z96 193 (.ref 21),dE P kr 206 (.ref 28),dE P dS 226 (.ref 38),dE P kq 242 (.ref 51)]⟩ 13),⟨[]⟩⟩
noncomputable def o79:OP:=fun P=>⟨.none,.none,(.fields ⟨[(.int 1 0),(.int 0 0),(.ref 20),(.int 5 0),(.int 0 0),(.ref 27),(.int 15 0),(.int 0 0),(.ref 34),(.int 17 0),(.int 0 0),(.ref 47)]⟩),⟨[]⟩⟩
noncomputable def o80:OP:=fun P=>⟨(.type y4),.none,(.cls ⟨dS,[(.type y5)],[(.ref 38),(.type y5),(.type SL.s5946037652744460706x9),(.type SL.s4278001404047624695x13),(.type SL.s2742458400755230247x6)],37,dS,.true,[],[(.ref 51)],.false,.none,.false⟩),⟨[(.some (.ref 29)),.none,(.some (.str dS 209)),(.some (.str dS 217)),(.some (.builtin SL.s4209523147560561109x18)),(.some (.bool .true))]⟩⟩
noncomputable def o81:OP:=fun P=>⟨(.type y0),.none,(.seq ⟨[(.ref 38)]⟩ 0),⟨[]⟩⟩
noncomputable def o83:OP:=fun P=>⟨(.type y3),.none,(.dict ⟨[dE P q70 234 (.str iP 207),dE P q82 236 (.str kq 235),dE P q71 238 (.int 17 237),dE P q72 239 (.ref 49)]⟩ 4),⟨[]⟩⟩
noncomputable def o86:OP:=fun P=>⟨(.type y1),.none,(.fields ⟨[(.str kq 229),(.str kq 230),(.str aO 231),(.int 17 0),(.int 0 0),(.int 0 0),(.int 0 0),(.int 0 0),(.ref 45),(.bool .false),(.int 181 0),(.ref 46),.none,.none,.none,.none,(.int 232 0),(.int 17 0),(.str aO 233)]⟩),⟨[]⟩⟩
noncomputable def o87:OP:=fun P=>⟨(.type SL.s658472552662922059x5),.none,.plain,⟨[(.some (.ref 47)),(.some (.ref 3)),(.some (.ref 44)),.none,(.some (.str iP 207)),.none,(.some (.ref 0))]⟩⟩
noncomputable def o89:OP:=fun P=>⟨(.type y3),.none,(.dict ⟨[dE P q70 234 (.str iP 207),dE P q71 238 (.int 17 237),dE P q72 239 (.ref 49),dE P q52 240 .none]⟩ 2),⟨[]⟩⟩
noncomputable def o90:OP:=fun P=>⟨(.type y4),.none,(.cls ⟨kq,[(.ref 38)],[(.ref 51),(.ref 38),(.type y5),(.type SL.s5946037652744460706x9),(.type SL.s4278001404047624695x13),(.type SL.s2742458400755230247x6)],50,kq,.true,[],[],.false,.none,.false⟩),⟨[(.some (.ref 42)),.none,(.some (.str kq 227)),(.some (.str kq 235)),(.some (.builtin SL.s4209523147560561109x18)),(.some (.bool .true))]⟩⟩
noncomputable def o91:OP:=fun P=>⟨(.type SL.s4290257624100764138x5),.none,(.fields ⟨[(.ref 51),(.ref 51),(.ref 51)]⟩),⟨[]⟩⟩
noncomputable def o92:OP:=fun P=>⟨(.type SL.s11030030927630378310x26),.none,(.fields ⟨[(.builtin SL.s4860613602091757760x24),(.ref 51)]⟩),⟨[]⟩⟩
noncomputable def o93:OP:=fun P=>⟨(.type y3),.none,(.dict ⟨[dE P z76 165 (.str iP 207),dE P q52 166 .none,dE P q53 167 .none,dE P q54 168 (.builtin SL.s7097527257260152453x26),dE P q55 169 .none,dE P q0 170 (.ref 6),dE P q56 171 (.ref 4),dE P q57 173 (.str aO 172),dE P q58 174 .none,dE P z96 193 (.ref 21),dE P kr 206 (.ref 28),dE P dS 226 (.ref 38),dE P kq 242 (.ref 51),dE P z86 258 (.ref 63)]⟩ 14),⟨[]⟩⟩
noncomputable def o94:OP:=fun P=>⟨.none,.none,(.fields ⟨[(.int 1 0),(.int 0 0),(.ref 20),(.int 5 0),(.int 0 0),(.ref 27),(.int 15 0),(.int 0 0),(.ref 34),(.int 17 0),(.int 0 0),(.ref 47),(.int 19 0),(.int 0 0),(.ref 59)]⟩),⟨[]⟩⟩
noncomputable def o95:OP:=fun P=>⟨(.type y4),.none,(.cls ⟨dS,[(.type y5)],[(.ref 38),(.type y5),(.type SL.s5946037652744460706x9),(.type SL.s4278001404047624695x13),(.type SL.s2742458400755230247x6)],37,dS,.true,[],[(.ref 51),(.ref 63)],.false,.none,.false⟩),⟨[(.some (.ref 29)),.none,(.some (.str dS 209)),(.some (.str dS 217)),(.some (.builtin SL.s4209523147560561109x18)),(.some (.bool .true))]⟩⟩
noncomputable def o98:OP:=fun P=>⟨(.type y3),.none,(.dict ⟨[dE P q70 250 (.str iP 207),dE P q82 252 (.str z86 251),dE P q71 254 (.int 19 253),dE P q72 255 (.ref 61)]⟩ 4),⟨[]⟩⟩
noncomputable def uc:OP:=fun P=>⟨(.type y1),.none,(.fields ⟨[(.str z86 245),(.str z86 246),(.str aO 247),(.int 19 0),(.int 0 0),(.int 0 0),(.int 0 0),(.int 0 0),(.ref 57),(.bool .false),(.int 181 0),(.ref 58),.none,.none,.none,.none,(.int 248 0),(.int 19 0),(.str aO 249)]⟩),⟨[]⟩⟩
noncomputable def ub:OP:=fun P=>⟨(.type SL.s658472552662922059x5),.none,.plain,⟨[(.some (.ref 59)),(.some (.ref 3)),(.some (.ref 56)),.none,(.some (.str iP 207)),.none,(.some (.ref 0))]⟩⟩
noncomputable def ti:OP:=fun P=>⟨(.type y3),.none,(.dict ⟨[dE P q70 250 (.str iP 207),dE P q71 254 (.int 19 253),dE P q72 255 (.ref 61),dE P q52 256 .none]⟩ 2),⟨[]⟩⟩
noncomputable def th:OP:=fun P=>⟨(.type y4),.none,(.cls ⟨z86,[(.ref 38)],[(.ref 63),(.ref 38),(.type y5),(.type SL.s5946037652744460706x9),(.type SL.s4278001404047624695x13),(.type SL.s2742458400755230247x6)],62,z86,.true,[],[],.false,.none,.false⟩),⟨[(.some (.ref 54)),.none,(.some (.str z86 243)),(.some (.str z86 251)),(.some (.builtin SL.s4209523147560561109x18)),(.some (.bool .true))]⟩⟩
noncomputable def ua:OP:=fun P=>⟨(.type SL.s4290257624100764138x5),.none,(.fields ⟨[(.ref 63),(.ref 63),(.ref 63)]⟩),⟨[]⟩⟩
noncomputable def tZ:OP:=fun P=>⟨(.type SL.s11030030927630378310x26),.none,(.fields ⟨[(.builtin SL.s4860613602091757760x24),(.ref 63)]⟩),⟨[]⟩⟩
noncomputable def Dz:OP:=fun P=>⟨(.type y3),.none,(.dict ⟨[dE P z76 165 (.str iP 207),dE P q52 166 .none,dE P q53 167 .none,dE P q54 168 (.builtin SL.s7097527257260152453x26),dE P q55 169 .none,dE P q0 170 (.ref 6),dE P q56 171 (.ref 4),dE P q57 173 (.str aO 172),dE P q58 174 .none,dE P z96 193 (.ref 21),dE P kr 206 (.ref 28),dE P dS 226 (.ref 38),dE P kq 242 (.ref 51),dE P z86 258 (.ref 63),dE P z26 274 (.ref 75)]⟩ 15),⟨[]⟩⟩
noncomputable def Dy:OP:=fun P=>⟨.none,.none,(.fields ⟨[(.int 1 0),(.int 0 0),(.ref 20),(.int 5 0),(.int 0 0),(.ref 27),(.int 15 0),(.int 0 0),(.ref 34),(.int 17 0),(.int 0 0),(.ref 47),(.int 19 0),(.int 0 0),(.ref 59),(.int 21 0),(.int 0 0),(.ref 71)]⟩),⟨[]⟩⟩
noncomputable def Dx:OP:=fun P=>⟨(.type y4),.none,(.cls ⟨dS,[(.type y5)],[(.ref 38),(.type y5),(.type SL.s5946037652744460706x9),(.type SL.s4278001404047624695x13),(.type SL.s2742458400755230247x6)],37,dS,.true,[],[(.ref 51),(.ref 63),(.ref 75)],.false,.none,.false⟩),⟨[(.some (.ref 29)),.none,(.some (.str dS 209)),(.some (.str dS 217)),(.some (.builtin SL.s4209523147560561109x18)),(.some (.bool .true))]⟩⟩
noncomputable def wd:OP:=fun P=>⟨(.type y3),.none,(.dict ⟨[dE P q70 266 (.str iP 207),dE P q82 268 (.str z26 267),dE P q71 270 (.int 21 269),dE P q72 271 (.ref 73)]⟩ 4),⟨[]⟩⟩
noncomputable def wc:OP:=fun P=>⟨(.type y1),.none,(.fields ⟨[(.str z26 261),(.str z26 262),(.str aO 263),(.int 21 0),(.int 0 0),(.int 0 0),(.int 0 0),(.int 0 0),(.ref 69),(.bool .false),(.int 181 0),(.ref 70),.none,.none,.none,.none,(.int 264 0),(.int 21 0),(.str aO 265)]⟩),⟨[]⟩⟩
noncomputable def wb:OP:=fun P=>⟨(.type SL.s658472552662922059x5),.none,.plain,⟨[(.some (.ref 71)),(.some (.ref 3)),(.some (.ref 68)),.none,(.some (.str iP 207)),.none,(.some (.ref 0))]⟩⟩
noncomputable def tY:OP:=fun P=>⟨(.type y3),.none,(.dict ⟨[dE P q70 266 (.str iP 207),dE P q71 270 (.int 21 269),dE P q72 271 (.ref 73),dE P q52 272 .none]⟩ 2),⟨[]⟩⟩
noncomputable def tX:OP:=fun P=>⟨(.type y4),.none,(.cls ⟨z26,[(.ref 38)],[(.ref 75),(.ref 38),(.type y5),(.type SL.s5946037652744460706x9),(.type SL.s4278001404047624695x13),(.type SL.s2742458400755230247x6)],74,z26,.true,[],[],.false,.none,.false⟩),⟨[(.some (.ref 66)),.none,(.some (.str z26 259)),(.some (.str z26 267)),(.some (.builtin SL.s4209523147560561109x18)),(.some (.bool .true))]⟩⟩
noncomputable def wa:OP:=fun P=>⟨(.type SL.s4290257624100764138x5),.none,(.fields ⟨[(.ref 75),(.ref 75),(.ref 75)]⟩),⟨[]⟩⟩
noncomputable def vZ:OP:=fun P=>⟨(.type SL.s11030030927630378310x26),.none,(.fields ⟨[(.builtin SL.s4860613602091757760x24),(.ref 75)]⟩),⟨[]⟩⟩
noncomputable def Dw:OP:=fun P=>⟨(.type y3),.none,(.dict ⟨[dE P z76 165 (.str tQ 319),dE P q52 166 .none,dE P q53 167 .none,dE P q54 168 (.builtin SL.s7097527257260152453x26),dE P q55 169 .none,dE P q0 170 (.ref 6),dE P q56 171 (.ref 4),dE P q57 173 (.str aO 172),dE P q58 174 .none,dE P z96 193 (.ref 21),dE P kr 206 (.ref 28),dE P dS 226 (.ref 38),dE P kq 242 (.ref 51),dE P z86 258 (.ref 63),dE P z26 274 (.ref 75),dE P z61 290 (.ref 87),dE P uB 294 (.int 8 293),dE P z89 301 (.ref 96),dE P oG 308 (.ref 103),dE P oH 318 (.ref 110),dE P z94 326 (.ref 115),dE P z92 332 (.ref 120)]⟩ 22),⟨[]⟩⟩
noncomputable def Dv:OP:=fun P=>⟨.none,.none,(.fields ⟨[(.int 1 0),(.int 0 0),(.ref 20),(.int 5 0),(.int 0 0),(.ref 27),(.int 15 0),(.int 0 0),(.ref 34),(.int 17 0),(.int 0 0),(.ref 47),(.int 19 0),(.int 0 0),(.ref 59),(.int 21 0),(.int 0 0),(.ref 71),(.int 23 0),(.int 0 0),(.ref 83),(.int 27 0),(.int 0 0),(.ref 95),(.int 30 0),(.int 0 0),(.ref 102),(.int 33 0),(.int 0 0),(.ref 109),(.int 41 0),(.int 0 0),(.ref 114),(.int 43 0),(.int 0 0),(.ref 119)]⟩),⟨[]⟩⟩
noncomputable def vY:OP:=fun P=>⟨(.type y4),.none,(.cls ⟨dS,[(.type y5)],[(.ref 38),(.type y5),(.type SL.s5946037652744460706x9),(.type SL.s4278001404047624695x13),(.type SL.s2742458400755230247x6)],37,dS,.true,[],[(.ref 51),(.ref 63),(.ref 75),(.ref 87)],.false,.none,.false⟩),⟨[(.some (.ref 29)),.none,(.some (.str dS 209)),(.some (.str dS 217)),(.some (.builtin SL.s4209523147560561109x18)),(.some (.bool .true))]⟩⟩
noncomputable def xv:OP:=fun P=>⟨(.type y3),.none,(.dict ⟨[dE P q70 282 (.str iP 207),dE P q82 284 (.str z61 283),dE P q71 286 (.int 23 285),dE P q72 287 (.ref 85)]⟩ 4),⟨[]⟩⟩
noncomputable def xu:OP:=fun P=>⟨(.type y1),.none,(.fields ⟨[(.str z61 277),(.str z61 278),(.str aO 279),(.int 23 0),(.int 0 0),(.int 0 0),(.int 0 0),(.int 0 0),(.ref 81),(.bool .false),(.int 181 0),(.ref 82),.none,.none,.none,.none,(.int 280 0),(.int 23 0),(.str aO 281)]⟩),⟨[]⟩⟩
noncomputable def xt:OP:=fun P=>⟨(.type SL.s658472552662922059x5),.none,.plain,⟨[(.some (.ref 83)),(.some (.ref 3)),(.some (.ref 80)),.none,(.some (.str iP 207)),.none,(.some (.ref 0))]⟩⟩
noncomputable def vX:OP:=fun P=>⟨(.type y3),.none,(.dict ⟨[dE P q70 282 (.str iP 207),dE P q71 286 (.int 23 285),dE P q72 287 (.ref 85),dE P q52 288 .none]⟩ 2),⟨[]⟩⟩
noncomputable def vW:OP:=fun P=>⟨(.type y4),.none,(.cls ⟨z61,[(.ref 38)],[(.ref 87),(.ref 38),(.type y5),(.type SL.s5946037652744460706x9),(.type SL.s4278001404047624695x13),(.type SL.s2742458400755230247x6)],86,z61,.true,[],[],.false,.none,.false⟩),⟨[(.some (.ref 78)),.none,(.some (.str z61 275)),(.some (.str z61 283)),(.some (.builtin SL.s4209523147560561109x18)),(.some (.bool .true))]⟩⟩
noncomputable def xr:OP:=fun P=>⟨(.type SL.s4290257624100764138x5),.none,(.fields ⟨[(.ref 87),(.ref 87),(.ref 87)]⟩),⟨[]⟩⟩
noncomputable def xq:OP:=fun P=>⟨(.type SL.s11030030927630378310x26),.none,(.fields ⟨[(.builtin SL.s4860613602091757760x24),(.ref 87)]⟩),⟨[]⟩⟩
noncomputable def vV:OP:=fun P=>⟨(.type y0),.none,(.seq ⟨[(.str z73 298)]⟩ 0),⟨[]⟩⟩
noncomputable def xp:OP:=fun P=>⟨.none,.none,(.func ⟨z89,z89,(fA (st 11)),(.stmts (fB (st 11))),(fS (st 11)),0,[],.none,.none,.none,.none,.none,.none,.none,0⟩),⟨[]⟩⟩
noncomputable def vU:OP:=fun P=>⟨(.type y1),.none,(.fields ⟨[(.str z89 295),(.str z89 296),(.str aO 297),(.int 27 0),(.int 1 0),(.int 0 0),(.int 0 0),(.int 3 0),(.ref 90),(.bool .true),(.int 181 0),(.ref 91),.none,(.ref 92),(.ref 93),(.ref 94),(.int 299 0),(.int 27 0),(.str aO 300)]⟩),⟨[]⟩⟩
noncomputable def vT:OP:=fun P=>⟨(.type y2),.none,(.func ⟨z89,z89,(fA (st 11)),(.stmts (fB (st 11))),(fS (st 11)),3,[],.none,.none,.none,(.str xy 291),.none,(.ref 95),.none,0⟩),⟨[]⟩⟩
noncomputable def vS:OP:=fun P=>⟨(.type y0),.none,(.seq ⟨[(.str z73 305)]⟩ 0),⟨[]⟩⟩
noncomputable def xm:OP:=fun P=>⟨.none,.none,(.func ⟨oG,oG,(fA (st 12)),(.stmts (fB (st 12))),(fS (st 12)),0,[],.none,.none,.none,.none,.none,.none,.none,0⟩),⟨[]⟩⟩
noncomputable def vR:OP:=fun P=>⟨(.type y1),.none,(.fields ⟨[(.str oG 302),(.str oG 303),(.str aO 304),(.int 30 0),(.int 1 0),(.int 0 0),(.int 0 0),(.int 3 0),(.ref 97),(.bool .true),(.int 181 0),(.ref 98),.none,(.ref 99),(.ref 100),(.ref 101),(.int 306 0),(.int 30 0),(.str aO 307)]⟩),⟨[]⟩⟩
noncomputable def vQ:OP:=fun P=>⟨(.type y2),.none,(.func ⟨oG,oG,(fA (st 12)),(.stmts (fB (st 12))),(fS (st 12)),3,[],.none,.none,.none,(.str xy 291),.none,(.ref 102),.none,0⟩),⟨[]⟩⟩
noncomputable def vP:OP:=fun P=>⟨(.type y0),.none,(.seq ⟨[(.str z73 312),(.str AM 313),(.str z56 314),(.str AL 315)]⟩ 0),⟨[]⟩⟩
noncomputable def xl:OP:=fun P=>⟨.none,.none,(.func ⟨oH,oH,(fA (st 13)),(.stmts (fB (st 13))),(fS (st 13)),0,[],.none,.none,.none,.none,.none,.none,.none,0⟩),⟨[]⟩⟩
noncomputable def vO:OP:=fun P=>⟨(.type y1),.none,(.fields ⟨[(.str oH 309),(.str oH 310),(.str aO 311),(.int 33 0),(.int 1 0),(.int 0 0),(.int 0 0),(.int 3 0),(.ref 104),(.bool .true),(.int 181 0),(.ref 105),.none,(.ref 106),(.ref 107),(.ref 108),(.int 316 0),(.int 33 0),(.str aO 317)]⟩),⟨[]⟩⟩
noncomputable def vN:OP:=fun P=>⟨(.type y2),.none,(.func ⟨oH,oH,(fA (st 13)),(.stmts (fB (st 13))),(fS (st 13)),3,[],.none,.none,.none,(.str xy 291),.none,(.ref 109),.none,0⟩),⟨[]⟩⟩
noncomputable def xk:OP:=fun P=>⟨.none,.none,(.func ⟨z94,z94,(fA (st 15)),(.stmts (fB (st 15))),(fS (st 15)),0,[],.none,.none,.none,.none,.none,.none,.none,0⟩),⟨[]⟩⟩
noncomputable def vM:OP:=fun P=>⟨(.type y1),.none,(.fields ⟨[(.str z94 321),(.str z94 322),(.str aO 323),(.int 41 0),(.int 2 0),(.int 0 0),(.int 0 0),(.int 3 0),(.ref 111),(.bool .true),(.int 181 0),(.ref 112),.none,.none,.none,(.ref 113),(.int 324 0),(.int 41 0),(.str aO 325)]⟩),⟨[]⟩⟩
noncomputable def vL:OP:=fun P=>⟨(.type y2),.none,(.func ⟨z94,z94,(fA (st 15)),(.stmts (fB (st 15))),(fS (st 15)),3,[],.none,.none,.none,(.str tQ 319),.none,(.ref 114),.none,0⟩),⟨[]⟩⟩
noncomputable def xj:OP:=fun P=>⟨.none,.none,(.func ⟨z92,z92,(fA (st 16)),(.stmts (fB (st 16))),(fS (st 16)),0,[],.none,.none,.none,.none,.none,.none,.none,0⟩),⟨[]⟩⟩
noncomputable def vK:OP:=fun P=>⟨(.type y1),.none,(.fields ⟨[(.str z92 327),(.str z92 328),(.str aO 329),(.int 43 0),(.int 3 0),(.int 0 0),(.int 0 0),(.int 3 0),(.ref 116),(.bool .true),(.int 181 0),(.ref 117),.none,.none,.none,(.ref 118),(.int 330 0),(.int 43 0),(.str aO 331)]⟩),⟨[]⟩⟩
noncomputable def vJ:OP:=fun P=>⟨(.type y2),.none,(.func ⟨z92,z92,(fA (st 16)),(.stmts (fB (st 16))),(fS (st 16)),3,[],.none,.none,.none,(.str tQ 319),.none,(.ref 119),.none,0⟩),⟨[]⟩⟩
noncomputable def Du:OP:=fun P=>⟨(.type y3),.none,(.dict ⟨[dE P z76 165 (.str z83 354),dE P q52 166 .none,dE P q53 167 .none,dE P q54 168 (.builtin SL.s7097527257260152453x26),dE P q55 169 .none,dE P q0 170 (.ref 6),dE P q56 171 (.ref 4),dE P q57 173 (.str aO 172),dE P q58 174 .none,dE P z96 193 (.ref 21),dE P kr 206 (.ref 28),dE P dS 226 (.ref 38),dE P kq 242 (.ref 51),dE P z86 258 (.ref 63),dE P z26 274 (.ref 75),dE P z61 290 (.ref 87),dE P uB 294 (.int 8 293),dE P z89 301 (.ref 96),dE P oG 308 (.ref 103),dE P oH 318 (.ref 110),dE P z94 326 (.ref 115),dE P z92 332 (.ref 120),dE P z91 341 (.ref 127),dE P pS 347 (.ref 132),dE P pT 353 (.ref 137)]⟩ 25),⟨[]⟩⟩
noncomputable def Dt:OP:=fun P=>⟨.none,.none,(.fields ⟨[(.int 1 0),(.int 0 0),(.ref 20),(.int 5 0),(.int 0 0),(.ref 27),(.int 15 0),(.int 0 0),(.ref 34),(.int 17 0),(.int 0 0),(.ref 47),(.int 19 0),(.int 0 0),(.ref 59),(.int 21 0),(.int 0 0),(.ref 71),(.int 23 0),(.int 0 0),(.ref 83),(.int 27 0),(.int 0 0),(.ref 95),(.int 30 0),(.int 0 0),(.ref 102),(.int 33 0),(.int 0 0),(.ref 109),(.int 41 0),(.int 0 0),(.ref 114),(.int 43 0),(.int 0 0),(.ref 119),(.int 46 0),(.int 0 0),(.ref 126),(.int 51 0),(.int 0 0),(.ref 131),(.int 57 0),(.int 0 0),(.ref 136)]⟩),⟨[]⟩⟩
noncomputable def xi:OP:=fun P=>⟨(.type y0),.none,(.seq ⟨[(.str z47 336),(.str z73 337),(.str AQ 338)]⟩ 0),⟨[]⟩⟩
noncomputable def yV:OP:=fun P=>⟨.none,.none,(.func ⟨z91,z91,(fA (st 17)),(.stmts (fB (st 17))),(fS (st 17)),0,[],.none,.none,.none,.none,.none,.none,.none,0⟩),⟨[]⟩⟩
noncomputable def xh:OP:=fun P=>⟨(.type y1),.none,(.fields ⟨[(.str z91 333),(.str z91 334),(.str aO 335),(.int 46 0),(.int 2 0),(.int 0 0),(.int 0 0),(.int 3 0),(.ref 121),(.bool .true),(.int 181 0),(.ref 122),.none,(.ref 123),(.ref 124),(.ref 125),(.int 339 0),(.int 46 0),(.str aO 340)]⟩),⟨[]⟩⟩
noncomputable def xg:OP:=fun P=>⟨(.type y2),.none,(.func ⟨z91,z91,(fA (st 17)),(.stmts (fB (st 17))),(fS (st 17)),3,[],.none,.none,.none,(.str tQ 319),.none,(.ref 126),.none,0⟩),⟨[]⟩⟩
noncomputable def yU:OP:=fun P=>⟨.none,.none,(.func ⟨pS,pS,(fA (st 18)),(.stmts (fB (st 18))),(fS (st 18)),0,[],.none,.none,.none,.none,.none,.none,.none,0⟩),⟨[]⟩⟩
noncomputable def xf:OP:=fun P=>⟨(.type y1),.none,(.fields ⟨[(.str pS 342),(.str pS 343),(.str aO 344),(.int 51 0),(.int 1 0),(.int 0 0),(.int 0 0),(.int 3 0),(.ref 128),(.bool .true),(.int 181 0),(.ref 129),.none,.none,.none,(.ref 130),(.int 345 0),(.int 51 0),(.str aO 346)]⟩),⟨[]⟩⟩
noncomputable def xe:OP:=fun P=>⟨(.type y2),.none,(.func ⟨pS,pS,(fA (st 18)),(.stmts (fB (st 18))),(fS (st 18)),3,[],.none,.none,.none,(.str tQ 319),.none,(.ref 131),.none,0⟩),⟨[]⟩⟩
noncomputable def yT:OP:=fun P=>⟨.none,.none,(.func ⟨pT,pT,(fA (st 19)),(.stmts (fB (st 19))),(fS (st 19)),0,[],.none,.none,.none,.none,.none,.none,.none,0⟩),⟨[]⟩⟩
noncomputable def xd:OP:=fun P=>⟨(.type y1),.none,(.fields ⟨[(.str pT 348),(.str pT 349),(.str aO 350),(.int 57 0),(.int 2 0),(.int 0 0),(.int 0 0),(.int 3 0),(.ref 133),(.bool .true),(.int 181 0),(.ref 134),.none,.none,.none,(.ref 135),(.int 351 0),(.int 57 0),(.str aO 352)]⟩),⟨[]⟩⟩
noncomputable def xc:OP:=fun P=>⟨(.type y2),.none,(.func ⟨pT,pT,(fA (st 19)),(.stmts (fB (st 19))),(fS (st 19)),3,[],.none,.none,.none,(.str tQ 319),.none,(.ref 136),.none,0⟩),⟨[]⟩⟩
noncomputable def Ds:OP:=fun P=>⟨(.type y3),.none,(.dict ⟨[dE P z76 165 (.str z83 354),dE P q52 166 .none,dE P q53 167 .none,dE P q54 168 (.builtin SL.s7097527257260152453x26),dE P q55 169 .none,dE P q0 170 (.ref 6),dE P q56 171 (.ref 4),dE P q57 173 (.str aO 172),dE P q58 174 .none,dE P z96 193 (.ref 21),dE P kr 206 (.ref 28),dE P dS 226 (.ref 38),dE P kq 242 (.ref 51),dE P z86 258 (.ref 63),dE P z26 274 (.ref 75),dE P z61 290 (.ref 87),dE P uB 294 (.int 8 293),dE P z89 301 (.ref 96),dE P oG 308 (.ref 103),dE P oH 318 (.ref 110),dE P z94 326 (.ref 115),dE P z92 332 (.ref 120),dE P z91 341 (.ref 127),dE P pS 347 (.ref 132),dE P pT 353 (.ref 137),dE P z31 453 (.ref 213)]⟩ 26),⟨[]⟩⟩
noncomputable def Dr:OP:=fun P=>⟨.none,.none,(.fields ⟨[(.int 1 0),(.int 0 0),(.ref 20),(.int 5 0),(.int 0 0),(.ref 27),(.int 15 0),(.int 0 0),(.ref 34),(.int 17 0),(.int 0 0),(.ref 47),(.int 19 0),(.int 0 0),(.ref 59),(.int 21 0),(.int 0 0),(.ref 71),(.int 23 0),(.int 0 0),(.ref 83),(.int 27 0),(.int 0 0),(.ref 95),(.int 30 0),(.int 0 0),(.ref 102),(.int 33 0),(.int 0 0),(.ref 109),(.int 41 0),(.int 0 0),(.ref 114),(.int 43 0),(.int 0 0),(.ref 119),(.int 46 0),(.int 0 0),(.ref 126),(.int 51 0),(.int 0 0),(.ref 131),(.int 57 0),(.int 0 0),(.ref 136),(.int 70 0),(.int 0 0),(.ref 143)]⟩),⟨[]⟩⟩
noncomputable def AC:OP:=fun P=>⟨(.type y3),.none,(.dict ⟨[dE P q70 363 (.str z83 354),dE P q82 365 (.str z31 364),dE P q71 367 (.int 70 366),dE P z84 375 (.ref 151),dE P z5 385 (.ref 158),dE P z25 394 (.ref 165),dE P z95 402 (.ref 172),dE P z97 410 (.ref 179),dE P z98 417 (.ref 186),dE P z46 423 (.ref 191),dE P z45 429 (.ref 196),dE P z43 436 (.ref 203),dE P z47 443 (.ref 210),dE P q72 446 (.ref 211)]⟩ 14),⟨[]⟩⟩
noncomputable def AB:OP:=fun P=>⟨.none,.none,(.fields ⟨[(.int 72 0),(.int 4 0),(.ref 150),(.int 78 0),(.int 4 0),(.ref 157),(.int 84 0),(.int 4 0),(.ref 164),(.int 92 0),(.int 4 0),(.ref 171),(.int 95 0),(.int 4 0),(.ref 178),(.int 98 0),(.int 4 0),(.ref 185),(.int 101 0),(.int 4 0),(.ref 190),(.int 104 0),(.int 4 0),(.ref 195),(.int 111 0),(.int 4 0),(.ref 202),(.int 114 0),(.int 4 0),(.ref 209)]⟩),⟨[]⟩⟩
noncomputable def AA:OP:=fun P=>⟨(.type y1),.none,(.fields ⟨[(.str z31 358),(.str z31 359),(.str aO 360),(.int 70 0),(.int 0 0),(.int 0 0),(.int 0 0),(.int 0 0),(.ref 141),(.bool .false),(.int 181 0),(.ref 142),.none,.none,.none,.none,(.int 361 0),(.int 70 0),(.str aO 362)]⟩),⟨[]⟩⟩
noncomputable def Az:OP:=fun P=>⟨(.type SL.s658472552662922059x5),.none,.plain,⟨[(.some (.ref 143)),(.some (.ref 3)),(.some (.ref 140)),.none,(.some (.str z83 354)),.none,(.some (.ref 0))]⟩⟩
noncomputable def yS:OP:=fun P=>⟨(.type y0),.none,(.seq ⟨[(.str z85 371),(.str z63 372)]⟩ 0),⟨[]⟩⟩
noncomputable def Ay:OP:=fun P=>⟨.none,.none,(.func ⟨z84,q20,(fA (stC 21 0)),(.stmts (fB (stC 21 0))),(fS (stC 21 0)),0,[],.none,.none,.none,.none,.none,.none,.none,0⟩),⟨[]⟩⟩
noncomputable def yR:OP:=fun P=>⟨(.type y1),.none,(.fields ⟨[(.str z84 368),(.str q20 369),(.str aO 370),(.int 72 0),(.int 2 0),(.int 0 0),(.int 0 0),(.int 3 0),(.ref 145),(.bool .true),(.int 181 0),(.ref 146),.none,(.ref 147),(.ref 148),(.ref 149),(.int 373 0),(.int 72 0),(.str aO 374)]⟩),⟨[]⟩⟩
noncomputable def yQ:OP:=fun P=>⟨(.type y2),.none,(.func ⟨z84,q20,(fA (stC 21 0)),(.stmts (fB (stC 21 0))),(fS (stC 21 0)),3,[],.none,.none,.none,(.str z83 354),.none,(.ref 150),.none,0⟩),⟨[]⟩⟩
noncomputable def yP:OP:=fun P=>⟨(.type y0),.none,(.seq ⟨[(.str z85 379),(.str z73 380),(.str z88 381),(.str z90 382)]⟩ 0),⟨[]⟩⟩
noncomputable def Ax:OP:=fun P=>⟨.none,.none,(.func ⟨z5,q62,(fA (stC 21 1)),(.stmts (fB (stC 21 1))),(fS (stC 21 1)),0,[],.none,.none,.none,.none,.none,.none,.none,0⟩),⟨[]⟩⟩
noncomputable def yO:OP:=fun P=>⟨(.type y1),.none,(.fields ⟨[(.str z5 376),(.str q62 377),(.str aO 378),(.int 78 0),(.int 3 0),(.int 0 0),(.int 0 0),(.int 3 0),(.ref 152),(.bool .true),(.int 181 0),(.ref 153),.none,(.ref 154),(.ref 155),(.ref 156),(.int 383 0),(.int 78 0),(.str aO 384)]⟩),⟨[]⟩⟩
noncomputable def yN:OP:=fun P=>⟨(.type y2),.none,(.func ⟨z5,q62,(fA (stC 21 1)),(.stmts (fB (stC 21 1))),(fS (stC 21 1)),3,[],.none,.none,.none,(.str z83 354),.none,(.ref 157),.none,0⟩),⟨[]⟩⟩
noncomputable def yM:OP:=fun P=>⟨(.type y0),.none,(.seq ⟨[(.str z85 389),(.str z73 390),(.str z90 391)]⟩ 0),⟨[]⟩⟩
noncomputable def Aw:OP:=fun P=>⟨.none,.none,(.func ⟨z25,q11,(fA (stC 21 2)),(.stmts (fB (stC 21 2))),(fS (stC 21 2)),0,[],.none,.none,.none,.none,.none,.none,.none,0⟩),⟨[]⟩⟩
noncomputable def yL:OP:=fun P=>⟨(.type y1),.none,(.fields ⟨[(.str z25 386),(.str q11 387),(.str aO 388),(.int 84 0),(.int 2 0),(.int 0 0),(.int 0 0),(.int 3 0),(.ref 159),(.bool .true),(.int 181 0),(.ref 160),.none,(.ref 161),(.ref 162),(.ref 163),(.int 392 0),(.int 84 0),(.str aO 393)]⟩),⟨[]⟩⟩
noncomputable def yK:OP:=fun P=>⟨(.type y2),.none,(.func ⟨z25,q11,(fA (stC 21 2)),(.stmts (fB (stC 21 2))),(fS (stC 21 2)),3,[],.none,.none,.none,(.str z83 354),.none,(.ref 164),.none,0⟩),⟨[]⟩⟩
noncomputable def yJ:OP:=fun P=>⟨(.type y0),.none,(.seq ⟨[(.str z85 398),(.str z73 399)]⟩ 0),⟨[]⟩⟩
noncomputable def Av:OP:=fun P=>⟨.none,.none,(.func ⟨z95,q87,(fA (stC 21 3)),(.stmts (fB (stC 21 3))),(fS (stC 21 3)),0,[],.none,.none,.none,.none,.none,.none,.none,0⟩),⟨[]⟩⟩
noncomputable def yI:OP:=fun P=>⟨(.type y1),.none,(.fields ⟨[(.str z95 395),(.str q87 396),(.str aO 397),(.int 92 0),(.int 2 0),(.int 0 0),(.int 0 0),(.int 3 0),(.ref 166),(.bool .true),(.int 181 0),(.ref 167),.none,(.ref 168),(.ref 169),(.ref 170),(.int 400 0),(.int 92 0),(.str aO 401)]⟩),⟨[]⟩⟩
noncomputable def yH:OP:=fun P=>⟨(.type y2),.none,(.func ⟨z95,q87,(fA (stC 21 3)),(.stmts (fB (stC 21 3))),(fS (stC 21 3)),3,[],.none,.none,.none,(.str z83 354),.none,(.ref 171),.none,0⟩),⟨[]⟩⟩
noncomputable def yG:OP:=fun P=>⟨(.type y0),.none,(.seq ⟨[(.str z85 406),(.str z73 407)]⟩ 0),⟨[]⟩⟩
noncomputable def Au:OP:=fun P=>⟨.none,.none,(.func ⟨z97,q86,(fA (stC 21 4)),(.stmts (fB (stC 21 4))),(fS (stC 21 4)),0,[],.none,.none,.none,.none,.none,.none,.none,0⟩),⟨[]⟩⟩
noncomputable def yF:OP:=fun P=>⟨(.type y1),.none,(.fields ⟨[(.str z97 403),(.str q86 404),(.str aO 405),(.int 95 0),(.int 2 0),(.int 0 0),(.int 0 0),(.int 3 0),(.ref 173),(.bool .true),(.int 181 0),(.ref 174),.none,(.ref 175),(.ref 176),(.ref 177),(.int 408 0),(.int 95 0),(.str aO 409)]⟩),⟨[]⟩⟩
noncomputable def yE:OP:=fun P=>⟨(.type y2),.none,(.func ⟨z97,q86,(fA (stC 21 4)),(.stmts (fB (stC 21 4))),(fS (stC 21 4)),3,[],.none,.none,.none,(.str z83 354),.none,(.ref 178),.none,0⟩),⟨[]⟩⟩
noncomputable def yD:OP:=fun P=>⟨(.type y0),.none,(.seq ⟨[(.str z85 414)]⟩ 0),⟨[]⟩⟩
noncomputable def Ar:OP:=fun P=>⟨.none,.none,(.func ⟨z98,q81,(fA (stC 21 5)),(.stmts (fB (stC 21 5))),(fS (stC 21 5)),0,[],.none,.none,.none,.none,.none,.none,.none,0⟩),⟨[]⟩⟩
noncomputable def yC:OP:=fun P=>⟨(.type y1),.none,(.fields ⟨[(.str z98 411),(.str q81 412),(.str aO 413),(.int 98 0),(.int 1 0),(.int 0 0),(.int 0 0),(.int 3 0),(.ref 180),(.bool .true),(.int 181 0),(.ref 181),.none,(.ref 182),(.ref 183),(.ref 184),(.int 415 0),(.int 98 0),(.str aO 416)]⟩),⟨[]⟩⟩
noncomputable def yB:OP:=fun P=>⟨(.type y2),.none,(.func ⟨z98,q81,(fA (stC 21 5)),(.stmts (fB (stC 21 5))),(fS (stC 21 5)),3,[],.none,.none,.none,(.str z83 354),.none,(.ref 185),.none,0⟩),⟨[]⟩⟩
noncomputable def Aq:OP:=fun P=>⟨.none,.none,(.func ⟨z46,q38,(fA (stC 21 6)),(.stmts (fB (stC 21 6))),(fS (stC 21 6)),0,[],.none,.none,.none,.none,.none,.none,.none,0⟩),⟨[]⟩⟩
noncomputable def yA:OP:=fun P=>⟨(.type y1),.none,(.fields ⟨[(.str z46 418),(.str q38 419),(.str aO 420),(.int 101 0),(.int 1 0),(.int 0 0),(.int 0 0),(.int 3 0),(.ref 187),(.bool .true),(.int 181 0),(.ref 188),.none,.none,.none,(.ref 189),(.int 421 0),(.int 101 0),(.str aO 422)]⟩),⟨[]⟩⟩
noncomputable def yz:OP:=fun P=>⟨(.type y2),.none,(.func ⟨z46,q38,(fA (stC 21 6)),(.stmts (fB (stC 21 6))),(fS (stC 21 6)),3,[],.none,.none,.none,(.str z83 354),.none,(.ref 190),.none,0⟩),⟨[]⟩⟩
noncomputable def Ap:OP:=fun P=>⟨.none,.none,(.func ⟨z45,q74,(fA (stC 21 7)),(.stmts (fB (stC 21 7))),(fS (stC 21 7)),0,[],.none,.none,.none,.none,.none,.none,.none,0⟩),⟨[]⟩⟩
noncomputable def yy:OP:=fun P=>⟨(.type y1),.none,(.fields ⟨[(.str z45 424),(.str q74 425),(.str aO 426),(.int 104 0),(.int 1 0),(.int 0 0),(.int 0 0),(.int 3 0),(.ref 192),(.bool .true),(.int 181 0),(.ref 193),.none,.none,.none,(.ref 194),(.int 427 0),(.int 104 0),(.str aO 428)]⟩),⟨[]⟩⟩
noncomputable def yx:OP:=fun P=>⟨(.type y2),.none,(.func ⟨z45,q74,(fA (stC 21 7)),(.stmts (fB (stC 21 7))),(fS (stC 21 7)),3,[],.none,.none,.none,(.str z83 354),.none,(.ref 195),.none,0⟩),⟨[]⟩⟩
noncomputable def yw:OP:=fun P=>⟨(.type y0),.none,(.seq ⟨[(.str z85 433)]⟩ 0),⟨[]⟩⟩
noncomputable def Ao:OP:=fun P=>⟨.none,.none,(.func ⟨z43,q25,(fA (stC 21 8)),(.stmts (fB (stC 21 8))),(fS (stC 21 8)),0,[],.none,.none,.none,.none,.none,.none,.none,0⟩),⟨[]⟩⟩
noncomputable def yv:OP:=fun P=>⟨(.type y1),.none,(.fields ⟨[(.str z43 430),(.str q25 431),(.str aO 432),(.int 111 0),(.int 1 0),(.int 0 0),(.int 0 0),(.int 3 0),(.ref 197),(.bool .true),(.int 181 0),(.ref 198),.none,(.ref 199),(.ref 200),(.ref 201),(.int 434 0),(.int 111 0),(.str aO 435)]⟩),⟨[]⟩⟩
noncomputable def yu:OP:=fun P=>⟨(.type y2),.none,(.func ⟨z43,q25,(fA (stC 21 8)),(.stmts (fB (stC 21 8))),(fS (stC 21 8)),3,[],.none,.none,.none,(.str z83 354),.none,(.ref 202),.none,0⟩),⟨[]⟩⟩
noncomputable def yt:OP:=fun P=>⟨(.type y0),.none,(.seq ⟨[(.str z85 440)]⟩ 0),⟨[]⟩⟩
noncomputable def An:OP:=fun P=>⟨.none,.none,(.func ⟨z47,q79,(fA (stC 21 9)),(.stmts (fB (stC 21 9))),(fS (stC 21 9)),0,[],.none,.none,.none,.none,.none,.none,.none,0⟩),⟨[]⟩⟩
noncomputable def yr:OP:=fun P=>⟨(.type y1),.none,(.fields ⟨[(.str z47 437),(.str q79 438),(.str aO 439),(.int 114 0),(.int 1 0),(.int 0 0),(.int 0 0),(.int 3 0),(.ref 204),(.bool .true),(.int 181 0),(.ref 205),.none,(.ref 206),(.ref 207),(.ref 208),(.int 441 0),(.int 114 0),(.str aO 442)]⟩),⟨[]⟩⟩
noncomputable def yq:OP:=fun P=>⟨(.type y2),.none,(.func ⟨z47,q79,(fA (stC 21 9)),(.stmts (fB (stC 21 9))),(fS (stC 21 9)),3,[],.none,.none,.none,(.str z83 354),.none,(.ref 209),.none,0⟩),⟨[]⟩⟩
noncomputable def yp:OP:=fun P=>⟨(.type y0),.none,(.seq ⟨[(.str z63 444),(.str z87 445)]⟩ 0),⟨[]⟩⟩
noncomputable def yo:OP:=fun P=>⟨(.type y3),.none,(.dict ⟨[dE P q70 363 (.str z83 354),dE P q71 367 (.int 70 366),dE P z84 375 (.ref 151),dE P z5 385 (.ref 158),dE P z25 394 (.ref 165),dE P z95 402 (.ref 172),dE P z97 410 (.ref 179),dE P z98 417 (.ref 186),dE P z46 423 (.ref 191),dE P z45 429 (.ref 196),dE P z43 436 (.ref 203),dE P z47 443 (.ref 210),dE P q72 446 (.ref 211),dE P q41 448 (.ref 214),dE P q65 450 (.ref 215),dE P q52 451 .none]⟩ 4),⟨[]⟩⟩
noncomputable def yn:OP:=fun P=>⟨(.type y4),.none,(.cls ⟨z31,[(.type SL.s2742458400755230247x6)],[(.ref 213),(.type SL.s2742458400755230247x6)],212,z31,.true,[],[],.false,.none,.false⟩),⟨[.none,.none,(.some (.str z31 356)),(.some (.str z31 364)),(.some (.builtin SL.s11443829558043349243x14)),(.some (.bool .true))]⟩⟩
noncomputable def ym:OP:=fun P=>⟨(.type SL.s14755015743595814543x17),.none,(.fields ⟨[(.str q41 447),(.ref 213),(.builtin SL.s6511155373996960695x17),(.builtin SL.s12411053484034534018x21)]⟩),⟨[]⟩⟩
noncomputable def yl:OP:=fun P=>⟨(.type SL.s14755015743595814543x17),.none,(.fields ⟨[(.str q65 449),(.ref 213),(.builtin SL.s10220274742760427390x26),.none]⟩),⟨[]⟩⟩
noncomputable def Am:OP:=fun P=>⟨(.type SL.s4290257624100764138x5),.none,(.fields ⟨[(.ref 213),(.ref 213),(.ref 213)]⟩),⟨[]⟩⟩
noncomputable def Al:OP:=fun P=>⟨(.type SL.s11030030927630378310x26),.none,(.fields ⟨[(.builtin SL.s4860613602091757760x24),(.ref 213)]⟩),⟨[]⟩⟩
noncomputable def Dq:OP:=fun P=>⟨(.type y3),.none,(.dict ⟨[dE P z76 165 (.str z77 487),dE P q52 166 .none,dE P q53 167 .none,dE P q54 168 (.builtin SL.s7097527257260152453x26),dE P q55 169 .none,dE P q0 170 (.ref 6),dE P q56 171 (.ref 4),dE P q57 173 (.str aO 172),dE P q58 174 .none,dE P z96 193 (.ref 21),dE P kr 206 (.ref 28),dE P dS 226 (.ref 38),dE P kq 242 (.ref 51),dE P z86 258 (.ref 63),dE P z26 274 (.ref 75),dE P z61 290 (.ref 87),dE P uB 294 (.int 8 293),dE P z89 301 (.ref 96),dE P oG 308 (.ref 103),dE P oH 318 (.ref 110),dE P z94 326 (.ref 115),dE P z92 332 (.ref 120),dE P z91 341 (.ref 127),dE P pS 347 (.ref 132),dE P pT 353 (.ref 137),dE P z31 453 (.ref 213),dE P z38 461 (.ref 222),dE P z64 471 (.ref 229),dE P z37 486 (.ref 236),dE P z78 495 (.ref 243),dE P z3 503 (.ref 250),dE P z52 512 (.ref 257),dE P z7 520 (.ref 264),dE P z32 527 (.ref 271),dE P z18 534 (.ref 278),dE P z19 540 (.ref 283),dE P z22 546 (.ref 288),dE P z0 552 (.ref 293),dE P z11 558 (.ref 298)]⟩ 39),⟨[]⟩⟩
noncomputable def Dp:OP:=fun P=>⟨.none,.none,(.fields ⟨[(.int 1 0),(.int 0 0),(.ref 20),(.int 5 0),(.int 0 0),(.ref 27),(.int 15 0),(.int 0 0),(.ref 34),(.int 17 0),(.int 0 0),(.ref 47),(.int 19 0),(.int 0 0),(.ref 59),(.int 21 0),(.int 0 0),(.ref 71),(.int 23 0),(.int 0 0),(.ref 83),(.int 27 0),(.int 0 0),(.ref 95),(.int 30 0),(.int 0 0),(.ref 102),(.int 33 0),(.int 0 0),(.ref 109),(.int 41 0),(.int 0 0),(.ref 114),(.int 43 0),(.int 0 0),(.ref 119),(.int 46 0),(.int 0 0),(.ref 126),(.int 51 0),(.int 0 0),(.ref 131),(.int 57 0),(.int 0 0),(.ref 136),(.int 70 0),(.int 0 0),(.ref 143),(.int 117 0),(.int 0 0),(.ref 221),(.int 123 0),(.int 0 0),(.ref 228),(.int 133 0),(.int 0 0),(.ref 235),(.int 155 0),(.int 0 0),(.ref 242),(.int 157 0),(.int 0 0),(.ref 249),(.int 161 0),(.int 0 0),(.ref 256),(.int 166 0),(.int 0 0),(.ref 263),(.int 172 0),(.int 0 0),(.ref 270),(.int 176 0),(.int 0 0),(.ref 277),(.int 180 0),(.int 0 0),(.ref 282),(.int 191 0),(.int 0 0),(.ref 287),(.int 196 0),(.int 0 0),(.ref 292),(.int 202 0),(.int 0 0),(.ref 297)]⟩),⟨[]⟩⟩
noncomputable def BA:OP:=fun P=>⟨.none,.none,(.func ⟨z38,z38,(fA (st 23)),(.stmts (fB (st 23))),(fS (st 23)),0,[],.none,.none,.none,.none,.none,.none,.none,0⟩),⟨[]⟩⟩
noncomputable def Ak:OP:=fun P=>⟨(.type y1),.none,(.fields ⟨[(.str z38 456),(.str z38 457),(.str aO 458),(.int 117 0),(.int 1 0),(.int 0 0),(.int 0 0),(.int 3 0),(.ref 218),(.bool .true),(.int 181 0),(.ref 219),.none,.none,.none,(.ref 220),(.int 459 0),(.int 117 0),(.str aO 460)]⟩),⟨[]⟩⟩
noncomputable def Aj:OP:=fun P=>⟨(.type y2),.none,(.func ⟨z38,z38,(fA (st 23)),(.stmts (fB (st 23))),(fS (st 23)),3,[],.none,.none,.none,(.str xz 454),.none,(.ref 221),.none,0⟩),⟨[]⟩⟩
noncomputable def Ai:OP:=fun P=>⟨(.type y0),.none,(.seq ⟨[(.str z69 465),(.str AP 466),(.str AO 467),(.str AN 468)]⟩ 0),⟨[]⟩⟩
noncomputable def Bz:OP:=fun P=>⟨.none,.none,(.func ⟨z64,z64,(fA (st 24)),(.stmts (fB (st 24))),(fS (st 24)),0,[],.none,.none,.none,.none,.none,.none,.none,0⟩),⟨[]⟩⟩
noncomputable def Ah:OP:=fun P=>⟨(.type y1),.none,(.fields ⟨[(.str z64 462),(.str z64 463),(.str aO 464),(.int 123 0),(.int 2 0),(.int 0 0),(.int 0 0),(.int 3 0),(.ref 223),(.bool .true),(.int 181 0),(.ref 224),.none,(.ref 225),(.ref 226),(.ref 227),(.int 469 0),(.int 123 0),(.str aO 470)]⟩),⟨[]⟩⟩
noncomputable def Ag:OP:=fun P=>⟨(.type y2),.none,(.func ⟨z64,z64,(fA (st 24)),(.stmts (fB (st 24))),(fS (st 24)),3,[],.none,.none,.none,(.str xz 454),.none,(.ref 228),.none,0⟩),⟨[]⟩⟩
noncomputable def Af:OP:=fun P=>⟨(.type y0),.none,(.seq ⟨[(.str z56 475),(.str z57 476),(.str z63 477),(.str z65 478),(.str z66 479),(.str z67 480),(.str z69 481),(.str z70 482),(.str z73 483)]⟩ 0),⟨[]⟩⟩
noncomputable def Bx:OP:=fun P=>⟨.none,.none,(.func ⟨z37,z37,(fA (st 25)),(.stmts (fB (st 25))),(fS (st 25)),0,[],.none,.none,.none,.none,.none,.none,.none,0⟩),⟨[]⟩⟩
noncomputable def Ae:OP:=fun P=>⟨(.type y1),.none,(.fields ⟨[(.str z37 472),(.str z37 473),(.str aO 474),(.int 133 0),(.int 1 0),(.int 0 0),(.int 0 0),(.int 3 0),(.ref 230),(.bool .true),(.int 181 0),(.ref 231),.none,(.ref 232),(.ref 233),(.ref 234),(.int 484 0),(.int 133 0),(.str aO 485)]⟩),⟨[]⟩⟩
noncomputable def Ad:OP:=fun P=>⟨(.type y2),.none,(.func ⟨z37,z37,(fA (st 25)),(.stmts (fB (st 25))),(fS (st 25)),3,[],.none,.none,.none,(.str xz 454),.none,(.ref 235),.none,0⟩),⟨[]⟩⟩
noncomputable def Bw:OP:=fun P=>⟨(.type y0),.none,(.seq ⟨[(.str z55 492)]⟩ 0),⟨[]⟩⟩
noncomputable def Bv:OP:=fun P=>⟨.none,.none,(.func ⟨z78,z78,(fA (st 27)),(.stmts (fB (st 27))),(fS (st 27)),0,[],.none,.none,.none,.none,.none,.none,.none,0⟩),⟨[]⟩⟩
noncomputable def Bu:OP:=fun P=>⟨(.type y1),.none,(.fields ⟨[(.str z78 489),(.str z78 490),(.str aO 491),(.int 155 0),(.int 1 0),(.int 0 0),(.int 0 0),(.int 3 0),(.ref 237),(.bool .true),(.int 181 0),(.ref 238),.none,(.ref 239),(.ref 240),(.ref 241),(.int 493 0),(.int 155 0),(.str aO 494)]⟩),⟨[]⟩⟩
noncomputable def Bt:OP:=fun P=>⟨(.type y2),.none,(.func ⟨z78,z78,(fA (st 27)),(.stmts (fB (st 27))),(fS (st 27)),3,[],.none,.none,.none,(.str z77 487),.none,(.ref 242),.none,0⟩),⟨[]⟩⟩
noncomputable def Ac:OP:=fun P=>⟨(.type y0),.none,(.seq ⟨[(.str z1 499),(.str z6 500)]⟩ 0),⟨[]⟩⟩
noncomputable def Bs:OP:=fun P=>⟨.none,.none,(.func ⟨z3,z3,(fA (st 28)),(.stmts (fB (st 28))),(fS (st 28)),0,[],.none,.none,.none,.none,.none,.none,.none,0⟩),⟨[]⟩⟩
noncomputable def Ab:OP:=fun P=>⟨(.type y1),.none,(.fields ⟨[(.str z3 496),(.str z3 497),(.str aO 498),(.int 157 0),(.int 2 0),(.int 0 0),(.int 0 0),(.int 3 0),(.ref 244),(.bool .true),(.int 181 0),(.ref 245),.none,(.ref 246),(.ref 247),(.ref 248),(.int 501 0),(.int 157 0),(.str aO 502)]⟩),⟨[]⟩⟩
noncomputable def Aa:OP:=fun P=>⟨(.type y2),.none,(.func ⟨z3,z3,(fA (st 28)),(.stmts (fB (st 28))),(fS (st 28)),3,[],.none,.none,.none,(.str z77 487),.none,(.ref 249),.none,0⟩),⟨[]⟩⟩
noncomputable def zZ:OP:=fun P=>⟨(.type y0),.none,(.seq ⟨[(.str z1 507),(.str z34 508),(.str z82 509)]⟩ 0),⟨[]⟩⟩
noncomputable def Br:OP:=fun P=>⟨.none,.none,(.func ⟨z52,z52,(fA (st 29)),(.stmts (fB (st 29))),(fS (st 29)),0,[],.none,.none,.none,.none,.none,.none,.none,0⟩),⟨[]⟩⟩
noncomputable def zY:OP:=fun P=>⟨(.type y1),.none,(.fields ⟨[(.str z52 504),(.str z52 505),(.str aO 506),(.int 161 0),(.int 2 0),(.int 0 0),(.int 0 0),(.int 3 0),(.ref 251),(.bool .true),(.int 181 0),(.ref 252),.none,(.ref 253),(.ref 254),(.ref 255),(.int 510 0),(.int 161 0),(.str aO 511)]⟩),⟨[]⟩⟩
noncomputable def zW:OP:=fun P=>⟨(.type y2),.none,(.func ⟨z52,z52,(fA (st 29)),(.stmts (fB (st 29))),(fS (st 29)),3,[],.none,.none,.none,(.str z77 487),.none,(.ref 256),.none,0⟩),⟨[]⟩⟩
noncomputable def zV:OP:=fun P=>⟨(.type y0),.none,(.seq ⟨[(.str z2 516),(.str z6 517)]⟩ 0),⟨[]⟩⟩
noncomputable def Bq:OP:=fun P=>⟨.none,.none,(.func ⟨z7,z7,(fA (st 30)),(.stmts (fB (st 30))),(fS (st 30)),0,[],.none,.none,.none,.none,.none,.none,.none,0⟩),⟨[]⟩⟩
noncomputable def zU:OP:=fun P=>⟨(.type y1),.none,(.fields ⟨[(.str z7 513),(.str z7 514),(.str aO 515),(.int 166 0),(.int 2 0),(.int 0 0),(.int 0 0),(.int 3 0),(.ref 258),(.bool .true),(.int 181 0),(.ref 259),.none,(.ref 260),(.ref 261),(.ref 262),(.int 518 0),(.int 166 0),(.str aO 519)]⟩),⟨[]⟩⟩
noncomputable def zT:OP:=fun P=>⟨(.type y2),.none,(.func ⟨z7,z7,(fA (st 30)),(.stmts (fB (st 30))),(fS (st 30)),3,[],.none,.none,.none,(.str z77 487),.none,(.ref 263),.none,0⟩),⟨[]⟩⟩
noncomputable def zS:OP:=fun P=>⟨(.type y0),.none,(.seq ⟨[(.str z2 524)]⟩ 0),⟨[]⟩⟩
noncomputable def Bp:OP:=fun P=>⟨.none,.none,(.func ⟨z32,z32,(fA (st 31)),(.stmts (fB (st 31))),(fS (st 31)),0,[],.none,.none,.none,.none,.none,.none,.none,0⟩),⟨[]⟩⟩
noncomputable def zR:OP:=fun P=>⟨(.type y1),.none,(.fields ⟨[(.str z32 521),(.str z32 522),(.str aO 523),(.int 172 0),(.int 1 0),(.int 0 0),(.int 0 0),(.int 3 0),(.ref 265),(.bool .true),(.int 181 0),(.ref 266),.none,(.ref 267),(.ref 268),(.ref 269),(.int 525 0),(.int 172 0),(.str aO 526)]⟩),⟨[]⟩⟩
noncomputable def zQ:OP:=fun P=>⟨(.type y2),.none,(.func ⟨z32,z32,(fA (st 31)),(.stmts (fB (st 31))),(fS (st 31)),3,[],.none,.none,.none,(.str z77 487),.none,(.ref 270),.none,0⟩),⟨[]⟩⟩
noncomputable def zP:OP:=fun P=>⟨(.type y0),.none,(.seq ⟨[(.str z1 531)]⟩ 0),⟨[]⟩⟩
noncomputable def Bo:OP:=fun P=>⟨.none,.none,(.func ⟨z18,z18,(fA (st 32)),(.stmts (fB (st 32))),(fS (st 32)),0,[],.none,.none,.none,.none,.none,.none,.none,0⟩),⟨[]⟩⟩
noncomputable def zO:OP:=fun P=>⟨(.type y1),.none,(.fields ⟨[(.str z18 528),(.str z18 529),(.str aO 530),(.int 176 0),(.int 1 0),(.int 0 0),(.int 0 0),(.int 3 0),(.ref 272),(.bool .true),(.int 181 0),(.ref 273),.none,(.ref 274),(.ref 275),(.ref 276),(.int 532 0),(.int 176 0),(.str aO 533)]⟩),⟨[]⟩⟩
noncomputable def zN:OP:=fun P=>⟨(.type y2),.none,(.func ⟨z18,z18,(fA (st 32)),(.stmts (fB (st 32))),(fS (st 32)),3,[],.none,.none,.none,(.str z77 487),.none,(.ref 277),.none,0⟩),⟨[]⟩⟩
noncomputable def Bn:OP:=fun P=>⟨.none,.none,(.func ⟨z19,z19,(fA (st 33)),(.stmts (fB (st 33))),(fS (st 33)),0,[],.none,.none,.none,.none,.none,.none,.none,0⟩),⟨[]⟩⟩
noncomputable def zM:OP:=fun P=>⟨(.type y1),.none,(.fields ⟨[(.str z19 535),(.str z19 536),(.str aO 537),(.int 180 0),(.int 3 0),(.int 0 0),(.int 0 0),(.int 3 0),(.ref 279),(.bool .true),(.int 181 0),(.ref 280),.none,.none,.none,(.ref 281),(.int 538 0),(.int 180 0),(.str aO 539)]⟩),⟨[]⟩⟩
noncomputable def zL:OP:=fun P=>⟨(.type y2),.none,(.func ⟨z19,z19,(fA (st 33)),(.stmts (fB (st 33))),(fS (st 33)),3,[],.none,.none,.none,(.str z77 487),.none,(.ref 282),.none,0⟩),⟨[]⟩⟩
noncomputable def Bm:OP:=fun P=>⟨.none,.none,(.func ⟨z22,z22,(fA (st 34)),(.stmts (fB (st 34))),(fS (st 34)),0,[],.none,.none,.none,.none,.none,.none,.none,0⟩),⟨[]⟩⟩
noncomputable def zK:OP:=fun P=>⟨(.type y1),.none,(.fields ⟨[(.str z22 541),(.str z22 542),(.str aO 543),(.int 191 0),(.int 2 0),(.int 0 0),(.int 0 0),(.int 3 0),(.ref 284),(.bool .true),(.int 181 0),(.ref 285),.none,.none,.none,(.ref 286),(.int 544 0),(.int 191 0),(.str aO 545)]⟩),⟨[]⟩⟩
noncomputable def zJ:OP:=fun P=>⟨(.type y2),.none,(.func ⟨z22,z22,(fA (st 34)),(.stmts (fB (st 34))),(fS (st 34)),3,[],.none,.none,.none,(.str z77 487),.none,(.ref 287),.none,0⟩),⟨[]⟩⟩
noncomputable def Bl:OP:=fun P=>⟨.none,.none,(.func ⟨z0,z0,(fA (st 35)),(.stmts (fB (st 35))),(fS (st 35)),0,[],.none,.none,.none,.none,.none,.none,.none,0⟩),⟨[]⟩⟩
noncomputable def zI:OP:=fun P=>⟨(.type y1),.none,(.fields ⟨[(.str z0 547),(.str z0 548),(.str aO 549),(.int 196 0),(.int 1 0),(.int 0 0),(.int 0 0),(.int 3 0),(.ref 289),(.bool .true),(.int 181 0),(.ref 290),.none,.none,.none,(.ref 291),(.int 550 0),(.int 196 0),(.str aO 551)]⟩),⟨[]⟩⟩
noncomputable def zH:OP:=fun P=>⟨(.type y2),.none,(.func ⟨z0,z0,(fA (st 35)),(.stmts (fB (st 35))),(fS (st 35)),3,[],.none,.none,.none,(.str z77 487),.none,(.ref 292),.none,0⟩),⟨[]⟩⟩
noncomputable def Bk:OP:=fun P=>⟨.none,.none,(.func ⟨z11,z11,(fA (st 36)),(.stmts (fB (st 36))),(fS (st 36)),0,[],.none,.none,.none,.none,.none,.none,.none,0⟩),⟨[]⟩⟩
noncomputable def zG:OP:=fun P=>⟨(.type y1),.none,(.fields ⟨[(.str z11 553),(.str z11 554),(.str aO 555),(.int 202 0),(.int 1 0),(.int 0 0),(.int 0 0),(.int 3 0),(.ref 294),(.bool .true),(.int 181 0),(.ref 295),.none,.none,.none,(.ref 296),(.int 556 0),(.int 202 0),(.str aO 557)]⟩),⟨[]⟩⟩
noncomputable def zF:OP:=fun P=>⟨(.type y2),.none,(.func ⟨z11,z11,(fA (st 36)),(.stmts (fB (st 36))),(fS (st 36)),3,[],.none,.none,.none,(.str z77 487),.none,(.ref 297),.none,0⟩),⟨[]⟩⟩
noncomputable def Bj:OP:=fun P=>⟨(.type y3),.none,(.dict ⟨[dE P z76 165 (.str z77 487),dE P q52 166 .none,dE P q53 167 .none,dE P q54 168 (.builtin SL.s7097527257260152453x26),dE P q55 169 .none,dE P q0 170 (.ref 6),dE P q56 171 (.ref 4),dE P q57 173 (.str aO 172),dE P q58 174 .none,dE P z96 193 (.ref 21),dE P kr 206 (.ref 28),dE P dS 226 (.ref 38),dE P kq 242 (.ref 51),dE P z86 258 (.ref 63),dE P z26 274 (.ref 75),dE P z61 290 (.ref 87),dE P uB 294 (.int 8 293),dE P z89 301 (.ref 96),dE P oG 308 (.ref 103),dE P oH 318 (.ref 110),dE P z94 326 (.ref 115),dE P z92 332 (.ref 120),dE P z91 341 (.ref 127),dE P pS 347 (.ref 132),dE P pT 353 (.ref 137),dE P z31 453 (.ref 213),dE P z38 461 (.ref 222),dE P z64 471 (.ref 229),dE P z37 486 (.ref 236),dE P z78 495 (.ref 243),dE P z3 503 (.ref 250),dE P z52 512 (.ref 257),dE P z7 520 (.ref 264),dE P z32 527 (.ref 271),dE P z18 534 (.ref 278),dE P z19 540 (.ref 283),dE P z22 546 (.ref 288),dE P z0 552 (.ref 293),dE P z11 558 (.ref 298),dE P z23 564 (.ref 303),dE P z27 570 (.ref 308),dE P z30 576 (.ref 313),dE P z36 582 (.ref 318)]⟩ 43),⟨[]⟩⟩
noncomputable def CB:OP:=fun P=>⟨.none,.none,(.fields ⟨[(.int 1 0),(.int 0 0),(.ref 20),(.int 5 0),(.int 0 0),(.ref 27),(.int 15 0),(.int 0 0),(.ref 34),(.int 17 0),(.int 0 0),(.ref 47),(.int 19 0),(.int 0 0),(.ref 59),(.int 21 0),(.int 0 0),(.ref 71),(.int 23 0),(.int 0 0),(.ref 83),(.int 27 0),(.int 0 0),(.ref 95),(.int 30 0),(.int 0 0),(.ref 102),(.int 33 0),(.int 0 0),(.ref 109),(.int 41 0),(.int 0 0),(.ref 114),(.int 43 0),(.int 0 0),(.ref 119),(.int 46 0),(.int 0 0),(.ref 126),(.int 51 0),(.int 0 0),(.ref 131),(.int 57 0),(.int 0 0),(.ref 136),(.int 70 0),(.int 0 0),(.ref 143),(.int 117 0),(.int 0 0),(.ref 221),(.int 123 0),(.int 0 0),(.ref 228),(.int 133 0),(.int 0 0),(.ref 235),(.int 155 0),(.int 0 0),(.ref 242),(.int 157 0),(.int 0 0),(.ref 249),(.int 161 0),(.int 0 0),(.ref 256),(.int 166 0),(.int 0 0),(.ref 263),(.int 172 0),(.int 0 0),(.ref 270),(.int 176 0),(.int 0 0),(.ref 277),(.int 180 0),(.int 0 0),(.ref 282),(.int 191 0),(.int 0 0),(.ref 287),(.int 196 0),(.int 0 0),(.ref 292),(.int 202 0),(.int 0 0),(.ref 297),(.int 210 0),(.int 0 0),(.ref 302),(.int 222 0),(.int 0 0),(.ref 307),(.int 225 0),(.int 0 0),(.ref 312),(.int 241 0),(.int 0 0),(.ref 317)]⟩),⟨[]⟩⟩
noncomputable def CA:OP:=fun P=>⟨.none,.none,(.func ⟨z23,z23,(fA (st 37)),(.stmts (fB (st 37))),(fS (st 37)),0,[],.none,.none,.none,.none,.none,.none,.none,0⟩),⟨[]⟩⟩
noncomputable def Bi:OP:=fun P=>⟨(.type y1),.none,(.fields ⟨[(.str z23 559),(.str z23 560),(.str aO 561),(.int 210 0),(.int 2 0),(.int 0 0),(.int 0 0),(.int 3 0),(.ref 299),(.bool .true),(.int 181 0),(.ref 300),.none,.none,.none,(.ref 301),(.int 562 0),(.int 210 0),(.str aO 563)]⟩),⟨[]⟩⟩
noncomputable def Bh:OP:=fun P=>⟨(.type y2),.none,(.func ⟨z23,z23,(fA (st 37)),(.stmts (fB (st 37))),(fS (st 37)),3,[],.none,.none,.none,(.str z77 487),.none,(.ref 302),.none,0⟩),⟨[]⟩⟩
noncomputable def Cz:OP:=fun P=>⟨.none,.none,(.func ⟨z27,z27,(fA (st 38)),(.stmts (fB (st 38))),(fS (st 38)),0,[],.none,.none,.none,.none,.none,.none,.none,0⟩),⟨[]⟩⟩
noncomputable def Bg:OP:=fun P=>⟨(.type y1),.none,(.fields ⟨[(.str z27 565),(.str z27 566),(.str aO 567),(.int 222 0),(.int 2 0),(.int 0 0),(.int 0 0),(.int 3 0),(.ref 304),(.bool .true),(.int 181 0),(.ref 305),.none,.none,.none,(.ref 306),(.int 568 0),(.int 222 0),(.str aO 569)]⟩),⟨[]⟩⟩
noncomputable def Bf:OP:=fun P=>⟨(.type y2),.none,(.func ⟨z27,z27,(fA (st 38)),(.stmts (fB (st 38))),(fS (st 38)),3,[],.none,.none,.none,(.str z77 487),.none,(.ref 307),.none,0⟩),⟨[]⟩⟩
noncomputable def Cy:OP:=fun P=>⟨.none,.none,(.func ⟨z30,z30,(fA (st 39)),(.stmts (fB (st 39))),(fS (st 39)),0,[],.none,.none,.none,.none,.none,.none,.none,0⟩),⟨[]⟩⟩
noncomputable def Be:OP:=fun P=>⟨(.type y1),.none,(.fields ⟨[(.str z30 571),(.str z30 572),(.str aO 573),(.int 225 0),(.int 2 0),(.int 0 0),(.int 0 0),(.int 3 0),(.ref 309),(.bool .true),(.int 181 0),(.ref 310),.none,.none,.none,(.ref 311),(.int 574 0),(.int 225 0),(.str aO 575)]⟩),⟨[]⟩⟩
noncomputable def Bd:OP:=fun P=>⟨(.type y2),.none,(.func ⟨z30,z30,(fA (st 39)),(.stmts (fB (st 39))),(fS (st 39)),3,[],.none,.none,.none,(.str z77 487),.none,(.ref 312),.none,0⟩),⟨[]⟩⟩
noncomputable def Cw:OP:=fun P=>⟨.none,.none,(.func ⟨z36,z36,(fA (st 40)),(.stmts (fB (st 40))),(fS (st 40)),0,[],.none,.none,.none,.none,.none,.none,.none,0⟩),⟨[]⟩⟩
noncomputable def Bc:OP:=fun P=>⟨(.type y1),.none,(.fields ⟨[(.str z36 577),(.str z36 578),(.str aO 579),(.int 241 0),(.int 1 0),(.int 0 0),(.int 0 0),(.int 3 0),(.ref 314),(.bool .true),(.int 181 0),(.ref 315),.none,.none,.none,(.ref 316),(.int 580 0),(.int 241 0),(.str aO 581)]⟩),⟨[]⟩⟩
noncomputable def Bb:OP:=fun P=>⟨(.type y2),.none,(.func ⟨z36,z36,(fA (st 40)),(.stmts (fB (st 40))),(fS (st 40)),3,[],.none,.none,.none,(.str z77 487),.none,(.ref 317),.none,0⟩),⟨[]⟩⟩
noncomputable def jB:Params→W.BT:=(fun P=>(.node (boot_o_0 P) (.node (boot_o_1 P) (.node (Dw P) (.node (boot_o_7 P) (.node (o43 P) (.node (o67 P) (lf (th P)) (lf (vU P))) (.node (o86 P) (lf (o66 P)) (lf (o43 P)))) (.node (o44 P) (.node (o75 P) (lf (wc P)) (lf (vQ P))) (.node (o66 P) (lf (vW P)) (lf (vK P))))) (.node (o43 P) (.node (o55 P) (.node (o71 P) (lf (o66 P)) (lf (vS P))) (.node (o90 P) (lf (xu P)) (lf (vL P)))) (.node (o63 P) (.node (o66 P) (lf (tX P)) (lf (o43 P))) (.node (uc P) (lf (o44 P)) .nil)))) (.node (boot_o_5 P) (.node (boot_o_9 P) (.node (o53 P) (.node (o44 P) (lf (tZ P)) (lf (o43 P))) (.node (o43 P) (lf (o43 P)) (lf (xk P)))) (.node (o43 P) (.node (o77 P) (lf (o43 P)) (lf (o44 P))) (.node (o43 P) (lf (xq P)) .nil))) (.node (o45 P) (.node (o57 P) (.node (o73 P) (lf (o43 P)) (lf (xm P))) (.node (o92 P) (lf (o43 P)) (lf (o44 P)))) (.node (o65 P) (.node (o43 P) (lf (vZ P)) (lf (vO P))) (.node (o43 P) (lf (o43 P)) .nil))))) (.node (boot_o_2 P) (.node (boot_o_4 P) (.node (boot_o_8 P) (.node (o44 P) (.node (o43 P) (lf (ua P)) (lf (vT P))) (.node (o87 P) (lf (xv P)) (lf (o44 P)))) (.node (o60 P) (.node (o76 P) (lf (wb P)) (lf (o43 P))) (.node (o98 P) (lf (xr P)) (lf (vJ P))))) (.node (Dv P) (.node (o56 P) (.node (o43 P) (lf (wd P)) (lf (o43 P))) (.node (o91 P) (lf (xt P)) (lf (o43 P)))) (.node (o64 P) (.node (o83 P) (lf (wa P)) (lf (xl P))) (.node (ub P) (lf (vV P)) .nil)))) (.node (boot_o_6 P) (.node (boot_o_10 P) (.node (o43 P) (.node (o70 P) (lf (o81 P)) (lf (o44 P))) (.node (o89 P) (lf (o44 P)) (lf (vM P)))) (.node (o62 P) (.node (o81 P) (lf (tY P)) (lf (vP P))) (.node (o44 P) (lf (o43 P)) .nil))) (.node (o46 P) (.node (o43 P) (.node (vY P) (lf (o44 P)) (lf (vR P))) (.node (o81 P) (lf (vX P)) (lf (xj P)))) (.node (o66 P) (.node (o44 P) (lf (o81 P)) (lf (vN P))) (.node (ti P) (lf (xp P)) .nil)))))))
noncomputable def nj:Params→W.BT:=(fun P=>(.node (boot_o_0 P) (.node (boot_o_1 P) (.node (boot_o_3 P) (lf (boot_o_7 P)) (lf (o43 P))) (.node (boot_o_5 P) (lf (boot_o_9 P)) (lf (o45 P)))) (.node (boot_o_2 P) (.node (boot_o_4 P) (lf (boot_o_8 P)) (lf (o44 P))) (.node (boot_o_6 P) (lf (boot_o_10 P)) (lf (o46 P))))))
noncomputable def aC:Env:=⟨(Module.scope (Program.main prog)),mainNs,mainNs,[],Str.empty,.none,(.ref 13),(.some 14),0⟩
noncomputable def jx:Params→W.BT:=(fun P=>(.node (boot_o_0 P) (.node (boot_o_1 P) (.node (Bj P) (.node (boot_o_7 P) (.node (o43 P) (.node (o67 P) (.node (th P) (.node (xg P) (lf (Br P)) .nil) (lf (yz P))) (.node (vU P) (.node (o43 P) (lf (zK P)) .nil) (lf (o43 P)))) (.node (o86 P) (.node (o66 P) (.node (AA P) (lf (zQ P)) .nil) (lf (o43 P))) (.node (o43 P) (.node (yG P) (lf (Bh P)) .nil) (lf (Bw P))))) (.node (o44 P) (.node (o75 P) (.node (wc P) (.node (yT P) (lf (zU P)) .nil) (lf (yw P))) (.node (vQ P) (.node (o44 P) (lf (o44 P)) .nil) (lf (o44 P)))) (.node (o66 P) (.node (vW P) (.node (yQ P) (lf (o43 P)) .nil) (lf (yl P))) (.node (vK P) (.node (o43 P) (lf (Cy P)) .nil) (lf (o43 P)))))) (.node (o43 P) (.node (o55 P) (.node (o71 P) (.node (o66 P) (.node (xf P) (lf (o44 P)) .nil) (lf (yy P))) (.node (vS P) (.node (Aw P) (lf (Bl P)) .nil) (lf (Bz P)))) (.node (o90 P) (.node (xu P) (.node (yS P) (lf (o43 P)) .nil) (lf (yp P))) (.node (vL P) (.node (yE P) (lf (Bg P)) .nil) (lf (Bt P))))) (.node (o63 P) (.node (o66 P) (.node (tX P) (.node (o66 P) (lf (zS P)) .nil) (lf (yu P))) (.node (o43 P) (.node (yI P) (lf (o43 P)) .nil) (lf (Ae P)))) (.node (uc P) (.node (o44 P) (.node (o43 P) (lf (zL P)) .nil) (lf (o44 P))) (.node (xi P) (.node (o43 P) (lf (o44 P)) .nil) (lf (o43 P))))))) (.node (boot_o_5 P) (.node (boot_o_9 P) (.node (o53 P) (.node (o44 P) (.node (tZ P) (.node (o44 P) (lf (zW P)) .nil) (lf (o44 P))) (.node (o43 P) (.node (yM P) (lf (o43 P)) .nil) (lf (Ai P)))) (.node (o43 P) (.node (o43 P) (.node (o43 P) (lf (o44 P)) .nil) (lf (yr P))) (.node (xk P) (.node (Au P) (lf (o44 P)) .nil) (lf (Bv P))))) (.node (o43 P) (.node (o77 P) (.node (o43 P) (.node (xc P) (lf (o43 P)) .nil) (lf (Ao P))) (.node (o44 P) (.node (o43 P) (lf (zG P)) .nil) (lf (o43 P)))) (.node (o43 P) (.node (xq P) (.node (o44 P) (lf (Bn P)) .nil) (lf (Al P))) (.node (o43 P) (.node (yC P) (lf (Bd P)) .nil) (lf (Ab P)))))) (.node (o45 P) (.node (o57 P) (.node (o73 P) (.node (o43 P) (.node (o43 P) (lf (o43 P)) .nil) (lf (o43 P))) (.node (xm P) (.node (yK P) (lf (zH P)) .nil) (lf (Ag P)))) (.node (o92 P) (.node (o43 P) (.node (Ay P) (lf (zO P)) .nil) (lf (yn P))) (.node (o44 P) (.node (o44 P) (lf (o43 P)) .nil) (lf (o44 P))))) (.node (o65 P) (.node (o43 P) (.node (vZ P) (.node (o43 P) (lf (Bp P)) .nil) (lf (o44 P))) (.node (vO P) (.node (o43 P) (lf (CA P)) .nil) (lf (o43 P)))) (.node (o43 P) (.node (o43 P) (.node (yO P) (lf (o44 P)) .nil) (lf (Ak P))) (.node (yV P) (.node (Aq P) (lf (Bc P)) .nil) (lf (zZ P)))))))) (.node (boot_o_2 P) (.node (boot_o_4 P) (.node (boot_o_8 P) (.node (o44 P) (.node (o43 P) (.node (ua P) (.node (o43 P) (lf (zY P)) .nil) (lf (o43 P))) (.node (vT P) (.node (o44 P) (lf (zJ P)) .nil) (lf (o44 P)))) (.node (o87 P) (.node (xv P) (.node (Az P) (lf (o43 P)) .nil) (lf (An P))) (.node (o44 P) (.node (o43 P) (lf (o43 P)) .nil) (lf (o43 P))))) (.node (o60 P) (.node (o76 P) (.node (wb P) (.node (xd P) (lf (zT P)) .nil) (lf (o43 P))) (.node (o43 P) (.node (yJ P) (lf (Bk P)) .nil) (lf (Af P)))) (.node (o98 P) (.node (xr P) (.node (o43 P) (lf (o44 P)) .nil) (lf (Am P))) (.node (vJ P) (.node (Ar P) (lf (Be P)) .nil) (lf (Bs P)))))) (.node (CB P) (.node (o56 P) (.node (o43 P) (.node (wd P) (.node (xe P) (lf (zV P)) .nil) (lf (yx P))) (.node (o43 P) (.node (yL P) (lf (zI P)) .nil) (lf (Ah P)))) (.node (o91 P) (.node (xt P) (.node (o43 P) (lf (Bo P)) .nil) (lf (yo P))) (.node (o43 P) (.node (o43 P) (lf (Bf P)) .nil) (lf (o43 P))))) (.node (o64 P) (.node (o83 P) (.node (wa P) (.node (AC P) (lf (o43 P)) .nil) (lf (o43 P))) (.node (xl P) (.node (yH P) (lf (o44 P)) .nil) (lf (Ad P)))) (.node (ub P) (.node (vV P) (.node (Ax P) (lf (o43 P)) .nil) (lf (BA P))) (.node (o43 P) (.node (o44 P) (lf (Cw P)) .nil) (lf (o44 P))))))) (.node (boot_o_6 P) (.node (boot_o_10 P) (.node (o43 P) (.node (o70 P) (.node (o81 P) (.node (yU P) (lf (o43 P)) .nil) (lf (Ap P))) (.node (o44 P) (.node (o43 P) (lf (o44 P)) .nil) (lf (o43 P)))) (.node (o89 P) (.node (o44 P) (.node (o44 P) (lf (zP P)) .nil) (lf (yq P))) (.node (vM P) (.node (yF P) (lf (Cz P)) .nil) (lf (Bu P))))) (.node (o62 P) (.node (o81 P) (.node (tY P) (.node (o43 P) (lf (o44 P)) .nil) (lf (yv P))) (.node (vP P) (.node (Av P) (lf (zF P)) .nil) (lf (Bx P)))) (.node (o44 P) (.node (o43 P) (.node (yP P) (lf (zM P)) .nil) (lf (o43 P))) (.node (o44 P) (.node (yB P) (lf (o43 P)) .nil) (lf (Aa P)))))) (.node (o46 P) (.node (o43 P) (.node (vY P) (.node (o44 P) (.node (o44 P) (lf (Bq P)) .nil) (lf (o44 P))) (.node (vR P) (.node (o43 P) (lf (o43 P)) .nil) (lf (o43 P)))) (.node (o81 P) (.node (vX P) (.node (yR P) (lf (zN P)) .nil) (lf (ym P))) (.node (xj P) (.node (yD P) (lf (o44 P)) .nil) (lf (Ac P))))) (.node (o66 P) (.node (o44 P) (.node (o81 P) (.node (AB P) (lf (zR P)) .nil) (lf (yt P))) (.node (vN P) (.node (o44 P) (lf (Bi P)) .nil) (lf (o44 P)))) (.node (ti P) (.node (xp P) (.node (yN P) (lf (Bm P)) .nil) (lf (Aj P))) (.node (xh P) (.node (yA P) (lf (Bb P)) .nil) (lf (o43 P))))))))))
noncomputable def jC:Params→W.BT:=(fun P=>(.node (boot_o_0 P) (.node (boot_o_1 P) (.node (Dz P) (.node (boot_o_7 P) (.node (o43 P) (.node (o67 P) (lf (th P)) .nil) (lf (o86 P))) (.node (o44 P) (.node (o75 P) (lf (wc P)) .nil) (lf (o66 P)))) (.node (o43 P) (.node (o55 P) (.node (o71 P) (lf (o66 P)) .nil) (lf (o90 P))) (.node (o63 P) (.node (o66 P) (lf (tX P)) .nil) (lf (uc P))))) (.node (boot_o_5 P) (.node (boot_o_9 P) (.node (o53 P) (.node (o44 P) (lf (tZ P)) .nil) (lf (o43 P))) (.node (o43 P) (.node (o77 P) (lf (o43 P)) .nil) (lf (o43 P)))) (.node (o45 P) (.node (o57 P) (.node (o73 P) (lf (o43 P)) .nil) (lf (o92 P))) (.node (o65 P) (.node (o43 P) (lf (vZ P)) .nil) (lf (o43 P)))))) (.node (boot_o_2 P) (.node (boot_o_4 P) (.node (boot_o_8 P) (.node (o44 P) (.node (o43 P) (lf (ua P)) .nil) (lf (o87 P))) (.node (o60 P) (.node (o76 P) (lf (wb P)) .nil) (lf (o98 P)))) (.node (Dy P) (.node (o56 P) (.node (o43 P) (lf (wd P)) .nil) (lf (o91 P))) (.node (o64 P) (.node (o83 P) (lf (wa P)) .nil) (lf (ub P))))) (.node (boot_o_6 P) (.node (boot_o_10 P) (.node (o43 P) (.node (o70 P) (lf (o81 P)) .nil) (lf (o89 P))) (.node (o62 P) (.node (o81 P) (lf (tY P)) .nil) (lf (o44 P)))) (.node (o46 P) (.node (o43 P) (.node (Dx P) (lf (o44 P)) .nil) (lf (o81 P))) (.node (o66 P) (lf (o44 P)) (lf (ti P))))))))
noncomputable def jA:Params→W.BT:=(fun P=>(.node (boot_o_0 P) (.node (boot_o_1 P) (.node (Du P) (.node (boot_o_7 P) (.node (o43 P) (.node (o67 P) (.node (th P) (lf (xg P)) .nil) (lf (vU P))) (.node (o86 P) (lf (o66 P)) (lf (o43 P)))) (.node (o44 P) (.node (o75 P) (.node (wc P) (lf (yT P)) .nil) (lf (vQ P))) (.node (o66 P) (lf (vW P)) (lf (vK P))))) (.node (o43 P) (.node (o55 P) (.node (o71 P) (.node (o66 P) (lf (xf P)) .nil) (lf (vS P))) (.node (o90 P) (lf (xu P)) (lf (vL P)))) (.node (o63 P) (.node (o66 P) (lf (tX P)) (lf (o43 P))) (.node (uc P) (lf (o44 P)) (lf (xi P)))))) (.node (boot_o_5 P) (.node (boot_o_9 P) (.node (o53 P) (.node (o44 P) (.node (tZ P) (lf (o44 P)) .nil) (lf (o43 P))) (.node (o43 P) (lf (o43 P)) (lf (xk P)))) (.node (o43 P) (.node (o77 P) (.node (o43 P) (lf (xc P)) .nil) (lf (o44 P))) (.node (o43 P) (lf (xq P)) (lf (o43 P))))) (.node (o45 P) (.node (o57 P) (.node (o73 P) (.node (o43 P) (lf (o43 P)) .nil) (lf (xm P))) (.node (o92 P) (lf (o43 P)) (lf (o44 P)))) (.node (o65 P) (.node (o43 P) (lf (vZ P)) (lf (vO P))) (.node (o43 P) (lf (o43 P)) (lf (yV P))))))) (.node (boot_o_2 P) (.node (boot_o_4 P) (.node (boot_o_8 P) (.node (o44 P) (.node (o43 P) (.node (ua P) (lf (o43 P)) .nil) (lf (vT P))) (.node (o87 P) (lf (xv P)) (lf (o44 P)))) (.node (o60 P) (.node (o76 P) (.node (wb P) (lf (xd P)) .nil) (lf (o43 P))) (.node (o98 P) (lf (xr P)) (lf (vJ P))))) (.node (Dt P) (.node (o56 P) (.node (o43 P) (.node (wd P) (lf (xe P)) .nil) (lf (o43 P))) (.node (o91 P) (lf (xt P)) (lf (o43 P)))) (.node (o64 P) (.node (o83 P) (lf (wa P)) (lf (xl P))) (.node (ub P) (lf (vV P)) (lf (o43 P)))))) (.node (boot_o_6 P) (.node (boot_o_10 P) (.node (o43 P) (.node (o70 P) (.node (o81 P) (lf (yU P)) .nil) (lf (o44 P))) (.node (o89 P) (lf (o44 P)) (lf (vM P)))) (.node (o62 P) (.node (o81 P) (lf (tY P)) (lf (vP P))) (.node (o44 P) (lf (o43 P)) (lf (o44 P))))) (.node (o46 P) (.node (o43 P) (.node (vY P) (.node (o44 P) (lf (o44 P)) .nil) (lf (vR P))) (.node (o81 P) (lf (vX P)) (lf (xj P)))) (.node (o66 P) (.node (o44 P) (lf (o81 P)) (lf (vN P))) (.node (ti P) (lf (xp P)) (lf (xh P)))))))))
noncomputable def jz:Params→W.BT:=(fun P=>(.node (boot_o_0 P) (.node (boot_o_1 P) (.node (Ds P) (.node (boot_o_7 P) (.node (o43 P) (.node (o67 P) (.node (th P) (lf (xg P)) (lf (yz P))) (.node (vU P) (lf (o43 P)) .nil)) (.node (o86 P) (.node (o66 P) (lf (AA P)) (lf (o43 P))) (.node (o43 P) (lf (yG P)) .nil))) (.node (o44 P) (.node (o75 P) (.node (wc P) (lf (yT P)) (lf (yw P))) (.node (vQ P) (lf (o44 P)) .nil)) (.node (o66 P) (.node (vW P) (lf (yQ P)) (lf (yl P))) (.node (vK P) (lf (o43 P)) .nil)))) (.node (o43 P) (.node (o55 P) (.node (o71 P) (.node (o66 P) (lf (xf P)) (lf (yy P))) (.node (vS P) (lf (Aw P)) .nil)) (.node (o90 P) (.node (xu P) (lf (yS P)) (lf (yp P))) (.node (vL P) (lf (yE P)) .nil))) (.node (o63 P) (.node (o66 P) (.node (tX P) (lf (o66 P)) (lf (yu P))) (.node (o43 P) (lf (yI P)) .nil)) (.node (uc P) (.node (o44 P) (lf (o43 P)) .nil) (.node (xi P) (lf (o43 P)) .nil))))) (.node (boot_o_5 P) (.node (boot_o_9 P) (.node (o53 P) (.node (o44 P) (.node (tZ P) (lf (o44 P)) (lf (o44 P))) (.node (o43 P) (lf (yM P)) .nil)) (.node (o43 P) (.node (o43 P) (lf (o43 P)) (lf (yr P))) (.node (xk P) (lf (Au P)) .nil))) (.node (o43 P) (.node (o77 P) (.node (o43 P) (lf (xc P)) (lf (Ao P))) (.node (o44 P) (lf (o43 P)) .nil)) (.node (o43 P) (.node (xq P) (lf (o44 P)) (lf (Al P))) (.node (o43 P) (lf (yC P)) .nil)))) (.node (o45 P) (.node (o57 P) (.node (o73 P) (.node (o43 P) (lf (o43 P)) (lf (o43 P))) (.node (xm P) (lf (yK P)) .nil)) (.node (o92 P) (.node (o43 P) (lf (Ay P)) (lf (yn P))) (.node (o44 P) (lf (o44 P)) .nil))) (.node (o65 P) (.node (o43 P) (.node (vZ P) (lf (o43 P)) (lf (o44 P))) (.node (vO P) (lf (o43 P)) .nil)) (.node (o43 P) (.node (o43 P) (lf (yO P)) .nil) (.node (yV P) (lf (Aq P)) .nil)))))) (.node (boot_o_2 P) (.node (boot_o_4 P) (.node (boot_o_8 P) (.node (o44 P) (.node (o43 P) (.node (ua P) (lf (o43 P)) (lf (o43 P))) (.node (vT P) (lf (o44 P)) .nil)) (.node (o87 P) (.node (xv P) (lf (Az P)) (lf (An P))) (.node (o44 P) (lf (o43 P)) .nil))) (.node (o60 P) (.node (o76 P) (.node (wb P) (lf (xd P)) (lf (o43 P))) (.node (o43 P) (lf (yJ P)) .nil)) (.node (o98 P) (.node (xr P) (lf (o43 P)) (lf (Am P))) (.node (vJ P) (lf (Ar P)) .nil)))) (.node (Dr P) (.node (o56 P) (.node (o43 P) (.node (wd P) (lf (xe P)) (lf (yx P))) (.node (o43 P) (lf (yL P)) .nil)) (.node (o91 P) (.node (xt P) (lf (o43 P)) (lf (yo P))) (.node (o43 P) (lf (o43 P)) .nil))) (.node (o64 P) (.node (o83 P) (.node (wa P) (lf (AC P)) (lf (o43 P))) (.node (xl P) (lf (yH P)) .nil)) (.node (ub P) (.node (vV P) (lf (Ax P)) .nil) (.node (o43 P) (lf (o44 P)) .nil))))) (.node (boot_o_6 P) (.node (boot_o_10 P) (.node (o43 P) (.node (o70 P) (.node (o81 P) (lf (yU P)) (lf (Ap P))) (.node (o44 P) (lf (o43 P)) .nil)) (.node (o89 P) (.node (o44 P) (lf (o44 P)) (lf (yq P))) (.node (vM P) (lf (yF P)) .nil))) (.node (o62 P) (.node (o81 P) (.node (tY P) (lf (o43 P)) (lf (yv P))) (.node (vP P) (lf (Av P)) .nil)) (.node (o44 P) (.node (o43 P) (lf (yP P)) .nil) (.node (o44 P) (lf (yB P)) .nil)))) (.node (o46 P) (.node (o43 P) (.node (vY P) (.node (o44 P) (lf (o44 P)) (lf (o44 P))) (.node (vR P) (lf (o43 P)) .nil)) (.node (o81 P) (.node (vX P) (lf (yR P)) (lf (ym P))) (.node (xj P) (lf (yD P)) .nil))) (.node (o66 P) (.node (o44 P) (.node (o81 P) (lf (AB P)) (lf (yt P))) (.node (vN P) (lf (o44 P)) .nil)) (.node (ti P) (.node (xp P) (lf (yN P)) .nil) (.node (xh P) (lf (yA P)) .nil))))))))
noncomputable def nX:Params→Heap:=(fun P=>⟨⟨[(boot_o_0 P),(boot_o_1 P),(boot_o_2 P),(boot_o_3 P),(boot_o_4 P),(boot_o_5 P),(boot_o_6 P),(boot_o_7 P),(boot_o_8 P),(boot_o_9 P),(boot_o_10 P),(o43 P),(o44 P),(o45 P),(o46 P)]⟩,⟨[],[],[],0,[],[],.false,⟨[]⟩,[],0,.false,.false,.false,0,[2000,10,10],.false,0,.true,[],[],0,.false⟩⟩)
noncomputable def jD:Params→W.BT:=(fun P=>(.node (boot_o_0 P) (.node (boot_o_1 P) (.node (o93 P) (.node (boot_o_7 P) (.node (o43 P) (.node (o67 P) (lf (th P)) .nil) (lf (o86 P))) (.node (o44 P) (lf (o75 P)) (lf (o66 P)))) (.node (o43 P) (.node (o55 P) (lf (o71 P)) (lf (o90 P))) (.node (o63 P) (lf (o66 P)) (lf (uc P))))) (.node (boot_o_5 P) (.node (boot_o_9 P) (.node (o53 P) (.node (o44 P) (lf (tZ P)) .nil) (lf (o43 P))) (.node (o43 P) (lf (o77 P)) (lf (o43 P)))) (.node (o45 P) (.node (o57 P) (lf (o73 P)) (lf (o92 P))) (.node (o65 P) (lf (o43 P)) (lf (o43 P)))))) (.node (boot_o_2 P) (.node (boot_o_4 P) (.node (boot_o_8 P) (.node (o44 P) (.node (o43 P) (lf (ua P)) .nil) (lf (o87 P))) (.node (o60 P) (lf (o76 P)) (lf (o98 P)))) (.node (o94 P) (.node (o56 P) (lf (o43 P)) (lf (o91 P))) (.node (o64 P) (lf (o83 P)) (lf (ub P))))) (.node (boot_o_6 P) (.node (boot_o_10 P) (.node (o43 P) (lf (o70 P)) (lf (o89 P))) (.node (o62 P) (lf (o81 P)) (lf (o44 P)))) (.node (o46 P) (.node (o43 P) (lf (o95 P)) (lf (o81 P))) (.node (o66 P) (lf (o44 P)) (lf (ti P))))))))
noncomputable def ng:Params→W.BT:=(fun P=>(.node (boot_o_0 P) (.node (boot_o_1 P) (.node (o78 P) (.node (boot_o_7 P) (.node (o43 P) (lf (o67 P)) (lf (o86 P))) (.node (o44 P) (lf (o75 P)) .nil)) (.node (o43 P) (.node (o55 P) (lf (o71 P)) (lf (o90 P))) (.node (o63 P) (lf (o66 P)) .nil))) (.node (boot_o_5 P) (.node (boot_o_9 P) (.node (o53 P) (lf (o44 P)) (lf (o43 P))) (.node (o43 P) (lf (o77 P)) .nil)) (.node (o45 P) (.node (o57 P) (lf (o73 P)) (lf (o92 P))) (.node (o65 P) (lf (o43 P)) .nil)))) (.node (boot_o_2 P) (.node (boot_o_4 P) (.node (boot_o_8 P) (.node (o44 P) (lf (o43 P)) (lf (o87 P))) (.node (o60 P) (lf (o76 P)) .nil)) (.node (o79 P) (.node (o56 P) (lf (o43 P)) (lf (o91 P))) (.node (o64 P) (lf (o83 P)) .nil))) (.node (boot_o_6 P) (.node (boot_o_10 P) (.node (o43 P) (lf (o70 P)) (lf (o89 P))) (.node (o62 P) (lf (o81 P)) .nil)) (.node (o46 P) (.node (o43 P) (lf (o80 P)) .nil) (.node (o66 P) (lf (o44 P)) .nil))))))
noncomputable def jy:Params→W.BT:=(fun P=>(.node (boot_o_0 P) (.node (boot_o_1 P) (.node (Dq P) (.node (boot_o_7 P) (.node (o43 P) (.node (o67 P) (.node (th P) (.node (xg P) (lf (Br P)) .nil) (lf (yz P))) (.node (vU P) (.node (o43 P) (lf (zK P)) .nil) (lf (o43 P)))) (.node (o86 P) (.node (o66 P) (.node (AA P) (lf (zQ P)) .nil) (lf (o43 P))) (.node (o43 P) (lf (yG P)) (lf (Bw P))))) (.node (o44 P) (.node (o75 P) (.node (wc P) (.node (yT P) (lf (zU P)) .nil) (lf (yw P))) (.node (vQ P) (.node (o44 P) (lf (o44 P)) .nil) (lf (o44 P)))) (.node (o66 P) (.node (vW P) (.node (yQ P) (lf (o43 P)) .nil) (lf (yl P))) (.node (vK P) (lf (o43 P)) (lf (o43 P)))))) (.node (o43 P) (.node (o55 P) (.node (o71 P) (.node (o66 P) (.node (xf P) (lf (o44 P)) .nil) (lf (yy P))) (.node (vS P) (.node (Aw P) (lf (Bl P)) .nil) (lf (Bz P)))) (.node (o90 P) (.node (xu P) (.node (yS P) (lf (o43 P)) .nil) (lf (yp P))) (.node (vL P) (lf (yE P)) (lf (Bt P))))) (.node (o63 P) (.node (o66 P) (.node (tX P) (.node (o66 P) (lf (zS P)) .nil) (lf (yu P))) (.node (o43 P) (lf (yI P)) (lf (Ae P)))) (.node (uc P) (.node (o44 P) (.node (o43 P) (lf (zL P)) .nil) (lf (o44 P))) (.node (xi P) (lf (o43 P)) (lf (o43 P))))))) (.node (boot_o_5 P) (.node (boot_o_9 P) (.node (o53 P) (.node (o44 P) (.node (tZ P) (.node (o44 P) (lf (zW P)) .nil) (lf (o44 P))) (.node (o43 P) (.node (yM P) (lf (o43 P)) .nil) (lf (Ai P)))) (.node (o43 P) (.node (o43 P) (.node (o43 P) (lf (o44 P)) .nil) (lf (yr P))) (.node (xk P) (lf (Au P)) (lf (Bv P))))) (.node (o43 P) (.node (o77 P) (.node (o43 P) (.node (xc P) (lf (o43 P)) .nil) (lf (Ao P))) (.node (o44 P) (.node (o43 P) (lf (zG P)) .nil) (lf (o43 P)))) (.node (o43 P) (.node (xq P) (.node (o44 P) (lf (Bn P)) .nil) (lf (Al P))) (.node (o43 P) (lf (yC P)) (lf (Ab P)))))) (.node (o45 P) (.node (o57 P) (.node (o73 P) (.node (o43 P) (.node (o43 P) (lf (o43 P)) .nil) (lf (o43 P))) (.node (xm P) (.node (yK P) (lf (zH P)) .nil) (lf (Ag P)))) (.node (o92 P) (.node (o43 P) (.node (Ay P) (lf (zO P)) .nil) (lf (yn P))) (.node (o44 P) (lf (o44 P)) (lf (o44 P))))) (.node (o65 P) (.node (o43 P) (.node (vZ P) (.node (o43 P) (lf (Bp P)) .nil) (lf (o44 P))) (.node (vO P) (lf (o43 P)) (lf (o43 P)))) (.node (o43 P) (.node (o43 P) (.node (yO P) (lf (o44 P)) .nil) (lf (Ak P))) (.node (yV P) (lf (Aq P)) (lf (zZ P)))))))) (.node (boot_o_2 P) (.node (boot_o_4 P) (.node (boot_o_8 P) (.node (o44 P) (.node (o43 P) (.node (ua P) (.node (o43 P) (lf (zY P)) .nil) (lf (o43 P))) (.node (vT P) (.node (o44 P) (lf (zJ P)) .nil) (lf (o44 P)))) (.node (o87 P) (.node (xv P) (.node (Az P) (lf (o43 P)) .nil) (lf (An P))) (.node (o44 P) (lf (o43 P)) (lf (o43 P))))) (.node (o60 P) (.node (o76 P) (.node (wb P) (.node (xd P) (lf (zT P)) .nil) (lf (o43 P))) (.node (o43 P) (.node (yJ P) (lf (Bk P)) .nil) (lf (Af P)))) (.node (o98 P) (.node (xr P) (.node (o43 P) (lf (o44 P)) .nil) (lf (Am P))) (.node (vJ P) (lf (Ar P)) (lf (Bs P)))))) (.node (Dp P) (.node (o56 P) (.node (o43 P) (.node (wd P) (.node (xe P) (lf (zV P)) .nil) (lf (yx P))) (.node (o43 P) (.node (yL P) (lf (zI P)) .nil) (lf (Ah P)))) (.node (o91 P) (.node (xt P) (.node (o43 P) (lf (Bo P)) .nil) (lf (yo P))) (.node (o43 P) (lf (o43 P)) (lf (o43 P))))) (.node (o64 P) (.node (o83 P) (.node (wa P) (.node (AC P) (lf (o43 P)) .nil) (lf (o43 P))) (.node (xl P) (lf (yH P)) (lf (Ad P)))) (.node (ub P) (.node (vV P) (.node (Ax P) (lf (o43 P)) .nil) (lf (BA P))) (.node (o43 P) (lf (o44 P)) (lf (o44 P))))))) (.node (boot_o_6 P) (.node (boot_o_10 P) (.node (o43 P) (.node (o70 P) (.node (o81 P) (.node (yU P) (lf (o43 P)) .nil) (lf (Ap P))) (.node (o44 P) (.node (o43 P) (lf (o44 P)) .nil) (lf (o43 P)))) (.node (o89 P) (.node (o44 P) (.node (o44 P) (lf (zP P)) .nil) (lf (yq P))) (.node (vM P) (lf (yF P)) (lf (Bu P))))) (.node (o62 P) (.node (o81 P) (.node (tY P) (.node (o43 P) (lf (o44 P)) .nil) (lf (yv P))) (.node (vP P) (.node (Av P) (lf (zF P)) .nil) (lf (Bx P)))) (.node (o44 P) (.node (o43 P) (.node (yP P) (lf (zM P)) .nil) (lf (o43 P))) (.node (o44 P) (lf (yB P)) (lf (Aa P)))))) (.node (o46 P) (.node (o43 P) (.node (vY P) (.node (o44 P) (.node (o44 P) (lf (Bq P)) .nil) (lf (o44 P))) (.node (vR P) (.node (o43 P) (lf (o43 P)) .nil) (lf (o43 P)))) (.node (o81 P) (.node (vX P) (.node (yR P) (lf (zN P)) .nil) (lf (ym P))) (.node (xj P) (lf (yD P)) (lf (Ac P))))) (.node (o66 P) (.node (o44 P) (.node (o81 P) (.node (AB P) (lf (zR P)) .nil) (lf (yt P))) (.node (vN P) (lf (o44 P)) (lf (o44 P)))) (.node (ti P) (.node (xp P) (.node (yN P) (lf (Bm P)) .nil) (lf (Aj P))) (.node (xh P) (lf (yA P)) (lf (o43 P))))))))))
noncomputable def am:Params→Heap:=(fun P=>⟨⟨[(boot_o_0 P),(boot_o_1 P),(boot_o_2 P),(Bj P),(boot_o_4 P),(boot_o_5 P),(boot_o_6 P),(boot_o_7 P),(boot_o_8 P),(boot_o_9 P),(boot_o_10 P),(o43 P),(CB P),(o45 P),(o46 P),(o43 P),(o44 P),(o53 P),(o43 P),(o55 P),(o56 P),(o57 P),(o43 P),(o44 P),(o60 P),(o43 P),(o62 P),(o63 P),(o64 P),(o65 P),(o66 P),(o67 P),(o43 P),(o44 P),(o70 P),(o71 P),(o43 P),(o73 P),(vY P),(o75 P),(o76 P),(o77 P),(o81 P),(o66 P),(o83 P),(o43 P),(o44 P),(o86 P),(o87 P),(o43 P),(o89 P),(o90 P),(o91 P),(o92 P),(o81 P),(o66 P),(o98 P),(o43 P),(o44 P),(uc P),(ub P),(o43 P),(ti P),(th P),(ua P),(tZ P),(o81 P),(o66 P),(wd P),(o43 P),(o44 P),(wc P),(wb P),(o43 P),(tY P),(tX P),(wa P),(vZ P),(o81 P),(o66 P),(xv P),(o43 P),(o44 P),(xu P),(xt P),(o43 P),(vX P),(vW P),(xr P),(xq P),(o43 P),(o44 P),(vV P),(o43 P),(xp P),(vU P),(vT P),(o43 P),(o44 P),(vS P),(o43 P),(xm P),(vR P),(vQ P),(o43 P),(o44 P),(vP P),(o43 P),(xl P),(vO P),(vN P),(o43 P),(o44 P),(xk P),(vM P),(vL P),(o43 P),(o44 P),(xj P),(vK P),(vJ P),(o43 P),(o44 P),(xi P),(o43 P),(yV P),(xh P),(xg P),(o43 P),(o44 P),(yU P),(xf P),(xe P),(o43 P),(o44 P),(yT P),(xd P),(xc P),(o43 P),(o66 P),(AC P),(o43 P),(AB P),(AA P),(Az P),(o43 P),(o44 P),(yS P),(o43 P),(Ay P),(yR P),(yQ P),(o43 P),(o44 P),(yP P),(o43 P),(Ax P),(yO P),(yN P),(o43 P),(o44 P),(yM P),(o43 P),(Aw P),(yL P),(yK P),(o43 P),(o44 P),(yJ P),(o43 P),(Av P),(yI P),(yH P),(o43 P),(o44 P),(yG P),(o43 P),(Au P),(yF P),(yE P),(o43 P),(o44 P),(yD P),(o43 P),(Ar P),(yC P),(yB P),(o43 P),(o44 P),(Aq P),(yA P),(yz P),(o43 P),(o44 P),(Ap P),(yy P),(yx P),(o43 P),(o44 P),(yw P),(o43 P),(Ao P),(yv P),(yu P),(o43 P),(o44 P),(yt P),(o43 P),(An P),(yr P),(yq P),(yp P),(yo P),(yn P),(ym P),(yl P),(Am P),(Al P),(o43 P),(o44 P),(BA P),(Ak P),(Aj P),(o43 P),(o44 P),(Ai P),(o43 P),(Bz P),(Ah P),(Ag P),(o43 P),(o44 P),(Af P),(o43 P),(Bx P),(Ae P),(Ad P),(o43 P),(o44 P),(Bw P),(o43 P),(Bv P),(Bu P),(Bt P),(o43 P),(o44 P),(Ac P),(o43 P),(Bs P),(Ab P),(Aa P),(o43 P),(o44 P),(zZ P),(o43 P),(Br P),(zY P),(zW P),(o43 P),(o44 P),(zV P),(o43 P),(Bq P),(zU P),(zT P),(o43 P),(o44 P),(zS P),(o43 P),(Bp P),(zR P),(zQ P),(o43 P),(o44 P),(zP P),(o43 P),(Bo P),(zO P),(zN P),(o43 P),(o44 P),(Bn P),(zM P),(zL P),(o43 P),(o44 P),(Bm P),(zK P),(zJ P),(o43 P),(o44 P),(Bl P),(zI P),(zH P),(o43 P),(o44 P),(Bk P),(zG P),(zF P),(o43 P),(o44 P),(CA P),(Bi P),(Bh P),(o43 P),(o44 P),(Cz P),(Bg P),(Bf P),(o43 P),(o44 P),(Cy P),(Be P),(Bd P),(o43 P),(o44 P),(Cw P),(Bc P),(Bb P)]⟩,⟨[],[],[],0,[],[],.false,⟨[]⟩,[],0,.false,.false,.false,0,[2000,10,10],.false,0,.true,[],[],0,.false⟩⟩)
noncomputable def ni:Params→W.BT:=(fun P=>(.node (boot_o_0 P) (.node (boot_o_1 P) (.node (o49 P) (.node (boot_o_7 P) (.node (o43 P) (lf (o67 P)) .nil) (.node (o44 P) (lf (o75 P)) .nil)) (.node (o43 P) (.node (o55 P) (lf (o71 P)) .nil) (lf (o63 P)))) (.node (boot_o_5 P) (.node (boot_o_9 P) (.node (o53 P) (lf (o44 P)) .nil) (.node (o43 P) (lf (o77 P)) .nil)) (.node (o45 P) (.node (o57 P) (lf (o73 P)) .nil) (lf (o65 P))))) (.node (boot_o_2 P) (.node (boot_o_4 P) (.node (boot_o_8 P) (.node (o44 P) (lf (o43 P)) .nil) (.node (o60 P) (lf (o76 P)) .nil)) (.node (o50 P) (.node (o56 P) (lf (o43 P)) .nil) (lf (o64 P)))) (.node (boot_o_6 P) (.node (boot_o_10 P) (.node (o43 P) (lf (o70 P)) .nil) (lf (o62 P))) (.node (o46 P) (.node (o43 P) (lf (o74 P)) .nil) (lf (o66 P)))))))
noncomputable def uP:List Stmt:=[st 0,st 1,st 2,st 3,st 4]
noncomputable def uO:List Stmt:=[st 5]
noncomputable def uN:List Stmt:=[st 6]
noncomputable def qj:List Stmt:=[st 7]
noncomputable def qi:List Stmt:=[st 8,st 9,st 10,st 11,st 12,st 13,st 14,st 15,st 16]
noncomputable def qh:List Stmt:=[st 17,st 18,st 19,st 20]
noncomputable def qg:List Stmt:=[st 21]
noncomputable def qf:List Stmt:=[st 22,st 23,st 24,st 25,st 26,st 27,st 28,st 29,st 30,st 31,st 32,st 33,st 34,st 35,st 36]
noncomputable def qe:List Stmt:=[st 37,st 38,st 39,st 40]
noncomputable def ao:Program:={ prog with main:={ prog.main with body:=[st 0,st 2,st 4,st 5,st 6,st 7,st 8,st 10,st 11,st 12,st 13,st 15,st 16,st 17,st 18,st 19,st 21,st 23,st 24,st 25,st 27,st 28,st 29,st 30,st 31,st 32,st 33,st 34,st 35,st 36,st 37,st 38,st 39,st 40]}}
noncomputable def ads:List Addr:=[2,3,15,17,18,20,21,22,24,25,27,28,29,36,37,38,39,42,49,50,51,54,61,62,63,66,73,74,75,78,85,86,87,90,92,93,95,96,97,99,100,102,103,104,106,107,109,110,111,114,115,116,119,120,121,123,124,126,127,128,131,132,133,136,137,145,147,148,150,151,152,154,155,157,158,159,161,162,164,165,166,168,169,171,172,173,175,176,178,179,180,182,183,185,186,187,190,191,192,195,196,197,199,200,202,203,204,206,207,209,210,211,212,213,214,215,218,221,222,223,225,226,228,229,230,232,233,235,236,244,246,247,249,250,251,253,254,256,257,258,260,261,263,264,265,267,268,270,271,272,274,275,277,278,279,282,283,284,287,288,289,292,293,294,297,298,299,302,303,304,307,308,309,312,313,314,317,318]
noncomputable def nY:Params→Frag:=fun P=>[(2,boot_o_2 P),(3,Bj P),(15,o43 P),(17,o53 P),(18,o43 P),(20,o56 P),(21,o57 P),(22,o43 P),(24,o60 P),(25,o43 P),(27,o63 P),(28,o64 P),(29,o65 P),(36,o43 P),(37,o73 P),(38,vY P),(39,o75 P),(42,o81 P),(49,o43 P),(50,o89 P),(51,o90 P),(54,o81 P),(61,o43 P),(62,ti P),(63,th P),(66,o81 P),(73,o43 P),(74,tY P),(75,tX P),(78,o81 P),(85,o43 P),(86,vX P),(87,vW P),(90,o43 P),(92,vV P),(93,o43 P),(95,vU P),(96,vT P),(97,o43 P),(99,vS P),(100,o43 P),(102,vR P),(103,vQ P),(104,o43 P),(106,vP P),(107,o43 P),(109,vO P),(110,vN P),(111,o43 P),(114,vM P),(115,vL P),(116,o43 P),(119,vK P),(120,vJ P),(121,o43 P),(123,xi P),(124,o43 P),(126,xh P),(127,xg P),(128,o43 P),(131,xf P),(132,xe P),(133,o43 P),(136,xd P),(137,xc P),(145,o43 P),(147,yS P),(148,o43 P),(150,yR P),(151,yQ P),(152,o43 P),(154,yP P),(155,o43 P),(157,yO P),(158,yN P),(159,o43 P),(161,yM P),(162,o43 P),(164,yL P),(165,yK P),(166,o43 P),(168,yJ P),(169,o43 P),(171,yI P),(172,yH P),(173,o43 P),(175,yG P),(176,o43 P),(178,yF P),(179,yE P),(180,o43 P),(182,yD P),(183,o43 P),(185,yC P),(186,yB P),(187,o43 P),(190,yA P),(191,yz P),(192,o43 P),(195,yy P),(196,yx P),(197,o43 P),(199,yw P),(200,o43 P),(202,yv P),(203,yu P),(204,o43 P),(206,yt P),(207,o43 P),(209,yr P),(210,yq P),(211,yp P),(212,yo P),(213,yn P),(214,ym P),(215,yl P),(218,o43 P),(221,Ak P),(222,Aj P),(223,o43 P),(225,Ai P),(226,o43 P),(228,Ah P),(229,Ag P),(230,o43 P),(232,Af P),(233,o43 P),(235,Ae P),(236,Ad P),(244,o43 P),(246,Ac P),(247,o43 P),(249,Ab P),(250,Aa P),(251,o43 P),(253,zZ P),(254,o43 P),(256,zY P),(257,zW P),(258,o43 P),(260,zV P),(261,o43 P),(263,zU P),(264,zT P),(265,o43 P),(267,zS P),(268,o43 P),(270,zR P),(271,zQ P),(272,o43 P),(274,zP P),(275,o43 P),(277,zO P),(278,zN P),(279,o43 P),(282,zM P),(283,zL P),(284,o43 P),(287,zK P),(288,zJ P),(289,o43 P),(292,zI P),(293,zH P),(294,o43 P),(297,zG P),(298,zF P),(299,o43 P),(302,Bi P),(303,Bh P),(304,o43 P),(307,Bg P),(308,Bf P),(309,o43 P),(312,Be P),(313,Bd P),(314,o43 P),(317,Bc P),(318,Bb P)]
noncomputable def hk:=kHook nY ads (fun _=>by kernel_rfl)
theorem i46: ∀ w:World,((fun os:OsState=>(Fast.tw15667345088766844465 Fast.tw14364793385576792824 prog w 11 (.some (.ref 6)) 12 ⟨(W.boot_heap (World.params w)),⟨[]⟩,W.boot_drawn,W.boot_toks,os⟩ (W.topStub prog)))=(fun os=>(.some ⟨⟨(nX (World.params w)),⟨[]⟩,⟨0,0,0,0⟩,187,os⟩,⟨(Fast.tw11892475500146522536 Fast.tw14364793385576792824 (.body (behindTheImports prog) aC)),(.body (behindTheImports prog) aC),⟨0,0,0,0⟩,[(topFrame ⟨0,0,0,0⟩)]⟩⟩))):=by intro w; kernel_rfl
theorem i48: ∀ w:World,((fun os:OsState=>(Fast.tw14374325043358763698 Fast.tw14364793385576792824 prog w 11 (.some (.ref 6)) 1 1 ⟨(nX (World.params w)),⟨[]⟩,⟨0,0,0,0⟩,187,os⟩ (W.blockOf (behindTheImports prog) aC (.body (behindTheImports prog) aC) ⟨0,0,0,0⟩ [(topFrame ⟨0,0,0,0⟩)])))=(fun os=>(.some ⟨.next,⟨(W.SharedT.abs ⟨(nj (World.params w)),15,⟨[],[],[],0,[],[],false,⟨[]⟩,[],0,false,false,false,0,[2000,10,10],false,0,true,[],[],0,false⟩,⟨[]⟩,⟨0,0,0,0⟩,187,os⟩),⟨(.body (behindTheImports prog) aC),⟨0,0,0,0⟩⟩⟩⟩))):=by intro w; kernel_rfl
theorem i77: ∀ w:World,((fun os:OsState=>(Fast.tw10110043849684766642 Fast.tw14364793385576792824 prog w 11 (.some (.ref 6)) 1 267 ⟨(nj (World.params w)),15,⟨[],[],[],0,[],[],false,⟨[]⟩,[],0,false,false,false,0,[2000,10,10],false,0,true,[],[],0,false⟩,⟨[]⟩,⟨0,0,0,0⟩,187,os⟩ (piecesOf uP aC (.body (behindTheImports prog) aC) ⟨0,0,0,0⟩ [(topFrame ⟨0,0,0,0⟩)])))=(fun os=>(.some ⟨.next,⟨⟨(ni (World.params w)),42,⟨[],[],[],0,[],[],false,⟨[]⟩,[],0,false,false,false,0,[2000,10,10],false,0,true,[],[],0,false⟩,⟨[]⟩,⟨0,0,0,0⟩,227,os⟩,⟨(.body (behindTheImports prog) aC),⟨15,0,16,8⟩⟩⟩⟩))):=by intro w; kernel_rfl
theorem i92: ∀ w:World,((fun os:OsState=>(Fast.tw10110043849684766642 Fast.tw14364793385576792824 prog w 11 (.some (.ref 6)) 1 214 ⟨(ni (World.params w)),42,⟨[],[],[],0,[],[],false,⟨[]⟩,[],0,false,false,false,0,[2000,10,10],false,0,true,[],[],0,false⟩,⟨[]⟩,⟨0,0,0,0⟩,227,os⟩ (piecesOf uO aC (.body (behindTheImports prog) aC) ⟨15,0,16,8⟩ [(topFrame ⟨0,0,0,0⟩)])))=(fun os=>(.some ⟨.next,⟨⟨(ng (World.params w)),54,⟨[],[],[],0,[],[],false,⟨[]⟩,[],0,false,false,false,0,[2000,10,10],false,0,true,[],[],0,false⟩,⟨[]⟩,⟨0,0,0,0⟩,243,os⟩,⟨(.body (behindTheImports prog) aC),⟨17,0,18,8⟩⟩⟩⟩))):=by intro w; kernel_rfl
theorem DZ: ∀ w:World,((fun os:OsState=>(Fast.tw10110043849684766642 Fast.tw14364793385576792824 prog w 11 (.some (.ref 6)) 1 214 ⟨(ng (World.params w)),54,⟨[],[],[],0,[],[],false,⟨[]⟩,[],0,false,false,false,0,[2000,10,10],false,0,true,[],[],0,false⟩,⟨[]⟩,⟨0,0,0,0⟩,243,os⟩ (piecesOf uN aC (.body (behindTheImports prog) aC) ⟨17,0,18,8⟩ [(topFrame ⟨0,0,0,0⟩)])))=(fun os=>(.some ⟨.next,⟨⟨(jD (World.params w)),66,⟨[],[],[],0,[],[],false,⟨[]⟩,[],0,false,false,false,0,[2000,10,10],false,0,true,[],[],0,false⟩,⟨[]⟩,⟨0,0,0,0⟩,259,os⟩,⟨(.body (behindTheImports prog) aC),⟨19,0,20,8⟩⟩⟩⟩))):=by intro w; kernel_rfl
theorem DY: ∀ w:World,((fun os:OsState=>(Fast.tw10110043849684766642 Fast.tw14364793385576792824 prog w 11 (.some (.ref 6)) 1 214 ⟨(jD (World.params w)),66,⟨[],[],[],0,[],[],false,⟨[]⟩,[],0,false,false,false,0,[2000,10,10],false,0,true,[],[],0,false⟩,⟨[]⟩,⟨0,0,0,0⟩,259,os⟩ (piecesOf qj aC (.body (behindTheImports prog) aC) ⟨19,0,20,8⟩ [(topFrame ⟨0,0,0,0⟩)])))=(fun os=>(.some ⟨.next,⟨⟨(jC (World.params w)),78,⟨[],[],[],0,[],[],false,⟨[]⟩,[],0,false,false,false,0,[2000,10,10],false,0,true,[],[],0,false⟩,⟨[]⟩,⟨0,0,0,0⟩,275,os⟩,⟨(.body (behindTheImports prog) aC),⟨21,0,22,8⟩⟩⟩⟩))):=by intro w; kernel_rfl
theorem DX: ∀ w:World,((fun os:OsState=>(Fast.tw10110043849684766642 Fast.tw14364793385576792824 prog w 11 (.some (.ref 6)) 1 383 ⟨(jC (World.params w)),78,⟨[],[],[],0,[],[],false,⟨[]⟩,[],0,false,false,false,0,[2000,10,10],false,0,true,[],[],0,false⟩,⟨[]⟩,⟨0,0,0,0⟩,275,os⟩ (piecesOf qi aC (.body (behindTheImports prog) aC) ⟨21,0,22,8⟩ [(topFrame ⟨0,0,0,0⟩)])))=(fun os=>(.some ⟨.next,⟨⟨(jB (World.params w)),121,⟨[],[],[],0,[],[],false,⟨[]⟩,[],0,false,false,false,0,[2000,10,10],false,0,true,[],[],0,false⟩,⟨[]⟩,⟨0,0,0,0⟩,333,os⟩,⟨(.body (behindTheImports prog) aC),⟨43,0,45,83⟩⟩⟩⟩))):=by intro w; kernel_rfl
theorem DW: ∀ w:World,((fun os:OsState=>(Fast.tw10110043849684766642 Fast.tw14364793385576792824 prog w 11 (.some (.ref 6)) 1 93 ⟨(jB (World.params w)),121,⟨[],[],[],0,[],[],false,⟨[]⟩,[],0,false,false,false,0,[2000,10,10],false,0,true,[],[],0,false⟩,⟨[]⟩,⟨0,0,0,0⟩,333,os⟩ (piecesOf qh aC (.body (behindTheImports prog) aC) ⟨43,0,45,83⟩ [(topFrame ⟨0,0,0,0⟩)])))=(fun os=>(.some ⟨.next,⟨⟨(jA (World.params w)),138,⟨[],[],[],0,[],[],false,⟨[]⟩,[],0,false,false,false,0,[2000,10,10],false,0,true,[],[],0,false⟩,⟨[]⟩,⟨0,0,0,0⟩,356,os⟩,⟨(.body (behindTheImports prog) aC),⟨69,0,69,8⟩⟩⟩⟩))):=by intro w; kernel_rfl
theorem DV: ∀ w:World,((fun os:OsState=>(Fast.tw10110043849684766642 Fast.tw14364793385576792824 prog w 11 (.some (.ref 6)) 1 504 ⟨(jA (World.params w)),138,⟨[],[],[],0,[],[],false,⟨[]⟩,[],0,false,false,false,0,[2000,10,10],false,0,true,[],[],0,false⟩,⟨[]⟩,⟨0,0,0,0⟩,356,os⟩ (piecesOf qg aC (.body (behindTheImports prog) aC) ⟨69,0,69,8⟩ [(topFrame ⟨0,0,0,0⟩)])))=(fun os=>(.some ⟨.next,⟨⟨(jz (World.params w)),218,⟨[],[],[],0,[],[],false,⟨[]⟩,[],0,false,false,false,0,[2000,10,10],false,0,true,[],[],0,false⟩,⟨[]⟩,⟨0,0,0,0⟩,454,os⟩,⟨(.body (behindTheImports prog) aC),⟨70,0,115,30⟩⟩⟩⟩))):=by intro w; kernel_rfl
theorem DU: ∀ w:World,((fun os:OsState=>(Fast.tw10110043849684766642 Fast.tw14364793385576792824 prog w 11 (.some (.ref 6)) 1 396 ⟨(jz (World.params w)),218,⟨[],[],[],0,[],[],false,⟨[]⟩,[],0,false,false,false,0,[2000,10,10],false,0,true,[],[],0,false⟩,⟨[]⟩,⟨0,0,0,0⟩,454,os⟩ (piecesOf qf aC (.body (behindTheImports prog) aC) ⟨70,0,115,30⟩ [(topFrame ⟨0,0,0,0⟩)])))=(fun os=>(.some ⟨.next,⟨⟨(jy (World.params w)),299,⟨[],[],[],0,[],[],false,⟨[]⟩,[],0,false,false,false,0,[2000,10,10],false,0,true,[],[],0,false⟩,⟨[]⟩,⟨0,0,0,0⟩,559,os⟩,⟨(.body (behindTheImports prog) aC),⟨202,0,209,26⟩⟩⟩⟩))):=by intro w; kernel_rfl
theorem DT: ∀ w:World,((fun os:OsState=>(Fast.tw10110043849684766642 Fast.tw14364793385576792824 prog w 11 (.some (.ref 6)) 1 105 ⟨(jy (World.params w)),299,⟨[],[],[],0,[],[],false,⟨[]⟩,[],0,false,false,false,0,[2000,10,10],false,0,true,[],[],0,false⟩,⟨[]⟩,⟨0,0,0,0⟩,559,os⟩ (piecesOf qe aC (.body (behindTheImports prog) aC) ⟨202,0,209,26⟩ [(topFrame ⟨0,0,0,0⟩)])))=(fun os=>(.some ⟨.next,⟨⟨(jx (World.params w)),319,⟨[],[],[],0,[],[],false,⟨[]⟩,[],0,false,false,false,0,[2000,10,10],false,0,true,[],[],0,false⟩,⟨[]⟩,⟨0,0,0,0⟩,583,os⟩,⟨(.body (behindTheImports prog) aC),⟨241,0,260,120⟩⟩⟩⟩))):=by intro w; kernel_rfl
theorem DS: ∀ w:World,((fun os:OsState=>(Fast.tw14082659384304107361 Fast.tw14364793385576792824 prog w 11 (.some (.ref 6)) 2 (W.SharedT.abs ⟨(jx (World.params w)),319,⟨[],[],[],0,[],[],false,⟨[]⟩,[],0,false,false,false,0,[2000,10,10],false,0,true,[],[],0,false⟩,⟨[]⟩,⟨0,0,0,0⟩,583,os⟩) ⟨(W.doneF .next),(.body (behindTheImports prog) aC),⟨241,0,260,120⟩,[(topFrame ⟨0,0,0,0⟩)]⟩))=(fun os=>(.some ⟨(am (World.params w)),⟨[]⟩,⟨0,0,0,0⟩,583,os⟩))):=by intro w; kernel_rfl
theorem DR: ∀ w:World,((⟨(Bool.and (Heap.isNs (W.boot_heap (World.params w)) mainGlobals) (BEq.beq (Array.size (⟨[]⟩:Array GenState)) 0)),⟨(Array.size (Heap.objs (W.boot_heap (World.params w)))),(Fast.tw8920871248978507458 (W.boot_heap (World.params w)) mainGlobals ⟨⟨[95,95,97,110,110,111,116,97,116,105,111,110,115,95,95]⟩⟩)⟩⟩:Bool×Nat×Option Value)=⟨true,⟨11,(.some (.ref 6))⟩⟩):=by intro w; kernel_rfl
theorem DQ: ∀ w:World,((fun os:OsState=>(Bool.and (Bool.and (Bool.and (W.staticsOk (Fast.tw5923862056798008813 (Module.body (Program.main prog))) (W.boot_heap (World.params w)) (am (World.params w))) (W.namesBound prog (am (World.params w)))) (W.gensDone ⟨(am (World.params w)),⟨[]⟩,⟨0,0,0,0⟩,583,os⟩)) (W.laidKept (W.boot_heap (World.params w)) (am (World.params w)))))=(fun os=>true)):=by intro w; kernel_rfl
theorem DP: ∀ w:World,((fun os:OsState=>(Fast.tw5160383126252970620 (W.R.mapR (fun x2=>(DefRec.name x2)) (Fast.tw3399658132070893891 ao)) (Fast.tw5991557255702980513 ao) [] ⟨(Shared.heap ⟨(am (World.params w)),⟨[]⟩,⟨0,0,0,0⟩,583,os⟩),⟨[]⟩,(Shared.drawn ⟨(am (World.params w)),⟨[]⟩,⟨0,0,0,0⟩,583,os⟩),(Shared.toks ⟨(am (World.params w)),⟨[]⟩,⟨0,0,0,0⟩,583,os⟩),(Shared.os ⟨(am (World.params w)),⟨[]⟩,⟨0,0,0,0⟩,583,os⟩)⟩))=(fun os=>(PyProof.Rows.expectedOf ao))):=by intro w; kernel_rfl
theorem DN: ∀ w:World,((fun os:OsState=>(Heap.bltView (Shared.heap ⟨(am (World.params w)),⟨[]⟩,⟨0,0,0,0⟩,583,os⟩)))=(fun os=>bltViewBooted)):=by intro w; kernel_rfl
theorem DM: ∀ w:World,((fun os:OsState=>(Bool.and (Bool.and (Bool.and (Bool.and (Bool.and (Bool.and (Fast.tw10880121769531294198 (Shared.heap ⟨(am (World.params w)),⟨[]⟩,⟨0,0,0,0⟩,583,os⟩) (Fast.tw821141287760084731 ao []) (W.R.mapR (fun x2=>(DefRec.name x2)) (Fast.tw3399658132070893891 ao)) (W.R.mapR (fun x2=>(Prod.fst x2)) (Fast.tw7409074990110511671 ao)) (W.R.mapR (fun x2=>(ClsRec.name x2)) (Fast.tw13664370479719496447 ao (Fast.tw821141287760084731 ao [])))) (Fast.tw14722251495701143533 (Shared.heap ⟨(am (World.params w)),⟨[]⟩,⟨0,0,0,0⟩,583,os⟩) (Fast.tw5923862056798008813 (Module.body (Program.main prog))))) (Heap.isNs (Shared.heap ⟨(am (World.params w)),⟨[]⟩,⟨0,0,0,0⟩,583,os⟩) mainGlobals)) (Heap.isNs (Shared.heap ⟨(am (World.params w)),⟨[]⟩,⟨0,0,0,0⟩,583,os⟩) builtinsNs)) (Fast.tw10994771534591457954 ao (Shared.heap ⟨(am (World.params w)),⟨[]⟩,⟨0,0,0,0⟩,583,os⟩))) (Bool.and (W.xlAt ao [] ⟨(am (World.params w)),⟨[]⟩,⟨0,0,0,0⟩,583,os⟩) (W.recOk (W.RowW.records (W.OpenRow.toRowW (Fast.tw2368527892694137696 lawT))) ⟨(am (World.params w)),⟨[]⟩,⟨0,0,0,0⟩,583,os⟩))) (ite (true=true) (BEq.beq (Array.size (Shared.gens ⟨(am (World.params w)),⟨[]⟩,⟨0,0,0,0⟩,583,os⟩)) 0) (Bool.not (leftWithCleanup (Shared.gens ⟨(am (World.params w)),⟨[]⟩,⟨0,0,0,0⟩,583,os⟩))))))=(fun os=>true)):=by intro w; kernel_rfl
theorem DL: ∀ w:World,((fun os:OsState=>(Fast.tw479339242167458305 ao ⟨(am (World.params w)),⟨[]⟩,⟨0,0,0,0⟩,583,os⟩))=(fun os=>true)):=by intro w; kernel_rfl
theorem DK: ∀ w:World,((fun os:OsState=>(Fast.tw16090120013241838585 ao (Fast.tw3247288618530077131 ao) ⟨(am (World.params w)),⟨[]⟩,⟨0,0,0,0⟩,583,os⟩))=(fun os=>(pinGoodD (Fast.tw3247288618530077131 ao)))):=by intro w; kernel_rfl
theorem DJ: ∀ w:World,((fun os:OsState=>(Fast.tw2386780881361962483 ao (Fast.tw821141287760084731 ao []) ⟨(am (World.params w)),⟨[]⟩,⟨0,0,0,0⟩,583,os⟩))=(fun os=>(PyProof.Rows.plainGoodE ao (Fast.tw821141287760084731 ao [])))):=by intro w; kernel_rfl
theorem DI: ∀ w:World,((fun os:OsState=>(Fast.tw11698064438423848299 ao [] ⟨(am (World.params w)),⟨[]⟩,⟨0,0,0,0⟩,583,os⟩))=(fun os=>(PyProof.Rows.plainGoodD ao []))):=by intro w; kernel_rfl
theorem DH: ∀ w:World,((fun os:OsState=>(Fast.tw7317090234206586261 ao ⟨(am (World.params w)),⟨[]⟩,⟨0,0,0,0⟩,583,os⟩))=(fun os=>(W.wideGood ao))):=by intro w; kernel_rfl
theorem DG: ∀ w:World,((fun os:OsState=>(Fast.tw7369524293546568484 ao [] ⟨(am (World.params w)),⟨[]⟩,⟨0,0,0,0⟩,583,os⟩))=(fun os=>(W.clsGoodW ao []))):=by intro w; kernel_rfl
theorem DF: ∀ w:World,((fun os:OsState=>(W.Hook.obs hk ⟨(am (World.params w)),⟨[]⟩,⟨0,0,0,0⟩,583,os⟩))=(fun os=>(W.Hook.val hk w))):=by intro w; kernel_rfl
theorem u47: ∀ w:World,((fun os:OsState=>(W.topGo treeTable prog w 11 (.some (.ref 6)) 12 ⟨(W.boot_heap (World.params w)),⟨[]⟩,W.boot_drawn,W.boot_toks,os⟩ (W.topStub prog)))=(fun os=>(.some ⟨⟨(nX (World.params w)),⟨[]⟩,⟨0,0,0,0⟩,187,os⟩,⟨(denote treeTable (.body (behindTheImports prog) aC)),(.body (behindTheImports prog) aC),⟨0,0,0,0⟩,[(topFrame ⟨0,0,0,0⟩)]⟩⟩))):=by
 intro w
 rw [Fast.te15667345088766844465,Fast.te14364793385576792824,Fast.te11892475500146522536]
 exact i46 w
theorem u49: ∀ w:World,((fun os:OsState=>(W.segRun treeTable prog w 11 (.some (.ref 6)) 1 1 ⟨(nX (World.params w)),⟨[]⟩,⟨0,0,0,0⟩,187,os⟩ (W.blockOf (behindTheImports prog) aC (.body (behindTheImports prog) aC) ⟨0,0,0,0⟩ [(topFrame ⟨0,0,0,0⟩)])))=(fun os=>(.some ⟨.next,⟨(W.SharedT.abs ⟨(nj (World.params w)),15,⟨[],[],[],0,[],[],false,⟨[]⟩,[],0,false,false,false,0,[2000,10,10],false,0,true,[],[],0,false⟩,⟨[]⟩,⟨0,0,0,0⟩,187,os⟩),⟨(.body (behindTheImports prog) aC),⟨0,0,0,0⟩⟩⟩⟩))):=by
 intro w
 rw [Fast.te14374325043358763698,Fast.te14364793385576792824]
 exact i48 w
theorem u78: ∀ w:World,((fun os:OsState=>(W.segRunT treeTable prog w 11 (.some (.ref 6)) 1 267 ⟨(nj (World.params w)),15,⟨[],[],[],0,[],[],false,⟨[]⟩,[],0,false,false,false,0,[2000,10,10],false,0,true,[],[],0,false⟩,⟨[]⟩,⟨0,0,0,0⟩,187,os⟩ (piecesOf uP aC (.body (behindTheImports prog) aC) ⟨0,0,0,0⟩ [(topFrame ⟨0,0,0,0⟩)])))=(fun os=>(.some ⟨.next,⟨⟨(ni (World.params w)),42,⟨[],[],[],0,[],[],false,⟨[]⟩,[],0,false,false,false,0,[2000,10,10],false,0,true,[],[],0,false⟩,⟨[]⟩,⟨0,0,0,0⟩,227,os⟩,⟨(.body (behindTheImports prog) aC),⟨15,0,16,8⟩⟩⟩⟩))):=by
 intro w
 rw [Fast.te10110043849684766642,Fast.te14364793385576792824]
 exact i77 w
theorem u93: ∀ w:World,((fun os:OsState=>(W.segRunT treeTable prog w 11 (.some (.ref 6)) 1 214 ⟨(ni (World.params w)),42,⟨[],[],[],0,[],[],false,⟨[]⟩,[],0,false,false,false,0,[2000,10,10],false,0,true,[],[],0,false⟩,⟨[]⟩,⟨0,0,0,0⟩,227,os⟩ (piecesOf uO aC (.body (behindTheImports prog) aC) ⟨15,0,16,8⟩ [(topFrame ⟨0,0,0,0⟩)])))=(fun os=>(.some ⟨.next,⟨⟨(ng (World.params w)),54,⟨[],[],[],0,[],[],false,⟨[]⟩,[],0,false,false,false,0,[2000,10,10],false,0,true,[],[],0,false⟩,⟨[]⟩,⟨0,0,0,0⟩,243,os⟩,⟨(.body (behindTheImports prog) aC),⟨17,0,18,8⟩⟩⟩⟩))):=by
 intro w
 rw [Fast.te10110043849684766642,Fast.te14364793385576792824]
 exact i92 w
theorem Dj: ∀ w:World,((fun os:OsState=>(W.segRunT treeTable prog w 11 (.some (.ref 6)) 1 214 ⟨(ng (World.params w)),54,⟨[],[],[],0,[],[],false,⟨[]⟩,[],0,false,false,false,0,[2000,10,10],false,0,true,[],[],0,false⟩,⟨[]⟩,⟨0,0,0,0⟩,243,os⟩ (piecesOf uN aC (.body (behindTheImports prog) aC) ⟨17,0,18,8⟩ [(topFrame ⟨0,0,0,0⟩)])))=(fun os=>(.some ⟨.next,⟨⟨(jD (World.params w)),66,⟨[],[],[],0,[],[],false,⟨[]⟩,[],0,false,false,false,0,[2000,10,10],false,0,true,[],[],0,false⟩,⟨[]⟩,⟨0,0,0,0⟩,259,os⟩,⟨(.body (behindTheImports prog) aC),⟨19,0,20,8⟩⟩⟩⟩))):=by
 intro w
 rw [Fast.te10110043849684766642,Fast.te14364793385576792824]
 exact DZ w
theorem Di: ∀ w:World,((fun os:OsState=>(W.segRunT treeTable prog w 11 (.some (.ref 6)) 1 214 ⟨(jD (World.params w)),66,⟨[],[],[],0,[],[],false,⟨[]⟩,[],0,false,false,false,0,[2000,10,10],false,0,true,[],[],0,false⟩,⟨[]⟩,⟨0,0,0,0⟩,259,os⟩ (piecesOf qj aC (.body (behindTheImports prog) aC) ⟨19,0,20,8⟩ [(topFrame ⟨0,0,0,0⟩)])))=(fun os=>(.some ⟨.next,⟨⟨(jC (World.params w)),78,⟨[],[],[],0,[],[],false,⟨[]⟩,[],0,false,false,false,0,[2000,10,10],false,0,true,[],[],0,false⟩,⟨[]⟩,⟨0,0,0,0⟩,275,os⟩,⟨(.body (behindTheImports prog) aC),⟨21,0,22,8⟩⟩⟩⟩))):=by
 intro w
 rw [Fast.te10110043849684766642,Fast.te14364793385576792824]
 exact DY w
theorem Dh: ∀ w:World,((fun os:OsState=>(W.segRunT treeTable prog w 11 (.some (.ref 6)) 1 383 ⟨(jC (World.params w)),78,⟨[],[],[],0,[],[],false,⟨[]⟩,[],0,false,false,false,0,[2000,10,10],false,0,true,[],[],0,false⟩,⟨[]⟩,⟨0,0,0,0⟩,275,os⟩ (piecesOf qi aC (.body (behindTheImports prog) aC) ⟨21,0,22,8⟩ [(topFrame ⟨0,0,0,0⟩)])))=(fun os=>(.some ⟨.next,⟨⟨(jB (World.params w)),121,⟨[],[],[],0,[],[],false,⟨[]⟩,[],0,false,false,false,0,[2000,10,10],false,0,true,[],[],0,false⟩,⟨[]⟩,⟨0,0,0,0⟩,333,os⟩,⟨(.body (behindTheImports prog) aC),⟨43,0,45,83⟩⟩⟩⟩))):=by
 intro w
 rw [Fast.te10110043849684766642,Fast.te14364793385576792824]
 exact DX w
theorem Dg: ∀ w:World,((fun os:OsState=>(W.segRunT treeTable prog w 11 (.some (.ref 6)) 1 93 ⟨(jB (World.params w)),121,⟨[],[],[],0,[],[],false,⟨[]⟩,[],0,false,false,false,0,[2000,10,10],false,0,true,[],[],0,false⟩,⟨[]⟩,⟨0,0,0,0⟩,333,os⟩ (piecesOf qh aC (.body (behindTheImports prog) aC) ⟨43,0,45,83⟩ [(topFrame ⟨0,0,0,0⟩)])))=(fun os=>(.some ⟨.next,⟨⟨(jA (World.params w)),138,⟨[],[],[],0,[],[],false,⟨[]⟩,[],0,false,false,false,0,[2000,10,10],false,0,true,[],[],0,false⟩,⟨[]⟩,⟨0,0,0,0⟩,356,os⟩,⟨(.body (behindTheImports prog) aC),⟨69,0,69,8⟩⟩⟩⟩))):=by
 intro w
 rw [Fast.te10110043849684766642,Fast.te14364793385576792824]
 exact DW w
theorem Df: ∀ w:World,((fun os:OsState=>(W.segRunT treeTable prog w 11 (.some (.ref 6)) 1 504 ⟨(jA (World.params w)),138,⟨[],[],[],0,[],[],false,⟨[]⟩,[],0,false,false,false,0,[2000,10,10],false,0,true,[],[],0,false⟩,⟨[]⟩,⟨0,0,0,0⟩,356,os⟩ (piecesOf qg aC (.body (behindTheImports prog) aC) ⟨69,0,69,8⟩ [(topFrame ⟨0,0,0,0⟩)])))=(fun os=>(.some ⟨.next,⟨⟨(jz (World.params w)),218,⟨[],[],[],0,[],[],false,⟨[]⟩,[],0,false,false,false,0,[2000,10,10],false,0,true,[],[],0,false⟩,⟨[]⟩,⟨0,0,0,0⟩,454,os⟩,⟨(.body (behindTheImports prog) aC),⟨70,0,115,30⟩⟩⟩⟩))):=by
 intro w
 rw [Fast.te10110043849684766642,Fast.te14364793385576792824]
 exact DV w
theorem De: ∀ w:World,((fun os:OsState=>(W.segRunT treeTable prog w 11 (.some (.ref 6)) 1 396 ⟨(jz (World.params w)),218,⟨[],[],[],0,[],[],false,⟨[]⟩,[],0,false,false,false,0,[2000,10,10],false,0,true,[],[],0,false⟩,⟨[]⟩,⟨0,0,0,0⟩,454,os⟩ (piecesOf qf aC (.body (behindTheImports prog) aC) ⟨70,0,115,30⟩ [(topFrame ⟨0,0,0,0⟩)])))=(fun os=>(.some ⟨.next,⟨⟨(jy (World.params w)),299,⟨[],[],[],0,[],[],false,⟨[]⟩,[],0,false,false,false,0,[2000,10,10],false,0,true,[],[],0,false⟩,⟨[]⟩,⟨0,0,0,0⟩,559,os⟩,⟨(.body (behindTheImports prog) aC),⟨202,0,209,26⟩⟩⟩⟩))):=by
 intro w
 rw [Fast.te10110043849684766642,Fast.te14364793385576792824]
 exact DU w
theorem Dd: ∀ w:World,((fun os:OsState=>(W.segRunT treeTable prog w 11 (.some (.ref 6)) 1 105 ⟨(jy (World.params w)),299,⟨[],[],[],0,[],[],false,⟨[]⟩,[],0,false,false,false,0,[2000,10,10],false,0,true,[],[],0,false⟩,⟨[]⟩,⟨0,0,0,0⟩,559,os⟩ (piecesOf qe aC (.body (behindTheImports prog) aC) ⟨202,0,209,26⟩ [(topFrame ⟨0,0,0,0⟩)])))=(fun os=>(.some ⟨.next,⟨⟨(jx (World.params w)),319,⟨[],[],[],0,[],[],false,⟨[]⟩,[],0,false,false,false,0,[2000,10,10],false,0,true,[],[],0,false⟩,⟨[]⟩,⟨0,0,0,0⟩,583,os⟩,⟨(.body (behindTheImports prog) aC),⟨241,0,260,120⟩⟩⟩⟩))):=by
 intro w
 rw [Fast.te10110043849684766642,Fast.te14364793385576792824]
 exact DT w
theorem Dc: ∀ w:World,((fun os:OsState=>(W.topRun treeTable prog w 11 (.some (.ref 6)) 2 (W.SharedT.abs ⟨(jx (World.params w)),319,⟨[],[],[],0,[],[],false,⟨[]⟩,[],0,false,false,false,0,[2000,10,10],false,0,true,[],[],0,false⟩,⟨[]⟩,⟨0,0,0,0⟩,583,os⟩) ⟨(W.doneF .next),(.body (behindTheImports prog) aC),⟨241,0,260,120⟩,[(topFrame ⟨0,0,0,0⟩)]⟩))=(fun os=>(.some ⟨(am (World.params w)),⟨[]⟩,⟨0,0,0,0⟩,583,os⟩))):=by
 intro w
 rw [Fast.te14082659384304107361,Fast.te14364793385576792824]
 exact DS w
theorem Db: ∀ w:World,((⟨(Bool.and (Heap.isNs (W.boot_heap (World.params w)) mainGlobals) (BEq.beq (Array.size (⟨[]⟩:Array GenState)) 0)),⟨(Array.size (Heap.objs (W.boot_heap (World.params w)))),(Heap.nsMap (W.boot_heap (World.params w)) mainGlobals q0)⟩⟩:Bool×Nat×Option Value)=⟨true,⟨11,(.some (.ref 6))⟩⟩):=by
 intro w
 rw [Fast.te8920871248978507458]
 exact DR w
theorem Da: ∀ w:World,((fun os:OsState=>(Bool.and (Bool.and (Bool.and (W.staticsOk (importedModules (Module.body (Program.main prog))) (W.boot_heap (World.params w)) (am (World.params w))) (W.namesBound prog (am (World.params w)))) (W.gensDone ⟨(am (World.params w)),⟨[]⟩,⟨0,0,0,0⟩,583,os⟩)) (W.laidKept (W.boot_heap (World.params w)) (am (World.params w)))))=(fun os=>true)):=by
 intro w
 rw [Fast.te5923862056798008813]
 exact DQ w
theorem CZ: ∀ w:World,((fun os:OsState=>(PyProof.Rows.seen (List.map (fun x2=>(DefRec.name x2)) (PyProof.Rows.recsOf ao)) (PyProof.Rows.ownsOf ao) [] ⟨(Shared.heap ⟨(am (World.params w)),⟨[]⟩,⟨0,0,0,0⟩,583,os⟩),⟨[]⟩,(Shared.drawn ⟨(am (World.params w)),⟨[]⟩,⟨0,0,0,0⟩,583,os⟩),(Shared.toks ⟨(am (World.params w)),⟨[]⟩,⟨0,0,0,0⟩,583,os⟩),(Shared.os ⟨(am (World.params w)),⟨[]⟩,⟨0,0,0,0⟩,583,os⟩)⟩))=(fun os=>(PyProof.Rows.expectedOf ao))):=by
 intro w
 rw [Fast.te5160383126252970620,W.R.mapR_eq,Fast.te3399658132070893891,Fast.te5991557255702980513]
 exact DP w
theorem CY: ∀ w:World,((fun os:OsState=>(Heap.bltView (Shared.heap ⟨(am (World.params w)),⟨[]⟩,⟨0,0,0,0⟩,583,os⟩)))=(fun os=>bltViewBooted)):=by
 intro w
 rw []
 exact DN w
theorem CX: ∀ w:World,((fun os:OsState=>(Bool.and (Bool.and (Bool.and (Bool.and (Bool.and (Bool.and (Heap.keysOk (Shared.heap ⟨(am (World.params w)),⟨[]⟩,⟨0,0,0,0⟩,583,os⟩) (W.looseW ao []) (List.map (fun x2=>(DefRec.name x2)) (PyProof.Rows.recsOf ao)) (List.map (fun x2=>(Prod.fst x2)) (PyProof.Rows.litsOf ao)) (List.map (fun x2=>(ClsRec.name x2)) (PyProof.Rows.clssOf ao (W.looseW ao [])))) (Heap.accountedOkI (Shared.heap ⟨(am (World.params w)),⟨[]⟩,⟨0,0,0,0⟩,583,os⟩) (importedModules (Module.body (Program.main prog))))) (Heap.isNs (Shared.heap ⟨(am (World.params w)),⟨[]⟩,⟨0,0,0,0⟩,583,os⟩) mainGlobals)) (Heap.isNs (Shared.heap ⟨(am (World.params w)),⟨[]⟩,⟨0,0,0,0⟩,583,os⟩) builtinsNs)) (PyProof.Rows.tablesOk ao (Shared.heap ⟨(am (World.params w)),⟨[]⟩,⟨0,0,0,0⟩,583,os⟩))) (Bool.and (W.xlAt ao [] ⟨(am (World.params w)),⟨[]⟩,⟨0,0,0,0⟩,583,os⟩) (W.recOk (W.RowW.records lawT.row.toRowW) ⟨(am (World.params w)),⟨[]⟩,⟨0,0,0,0⟩,583,os⟩))) (ite (true=true) (BEq.beq (Array.size (Shared.gens ⟨(am (World.params w)),⟨[]⟩,⟨0,0,0,0⟩,583,os⟩)) 0) (Bool.not (leftWithCleanup (Shared.gens ⟨(am (World.params w)),⟨[]⟩,⟨0,0,0,0⟩,583,os⟩))))))=(fun os=>true)):=by
 intro w
 rw [Fast.te10880121769531294198,Fast.te821141287760084731,W.R.mapR_eq,Fast.te3399658132070893891,Fast.te7409074990110511671,Fast.te13664370479719496447,Fast.te14722251495701143533,Fast.te5923862056798008813,Fast.te10994771534591457954]
 exact DM w
theorem CW: ∀ w:World,((fun os:OsState=>(PyProof.Rows.tabsOk ao ⟨(am (World.params w)),⟨[]⟩,⟨0,0,0,0⟩,583,os⟩))=(fun os=>true)):=by
 intro w
 rw [Fast.te479339242167458305]
 exact DL w
theorem CV: ∀ w:World,((fun os:OsState=>(pinSeenD ao (PyProof.Rows.drecsOf ao) ⟨(am (World.params w)),⟨[]⟩,⟨0,0,0,0⟩,583,os⟩))=(fun os=>(pinGoodD (PyProof.Rows.drecsOf ao)))):=by
 intro w
 rw [Fast.te16090120013241838585,Fast.te3247288618530077131]
 exact DK w
theorem CU: ∀ w:World,((fun os:OsState=>(PyProof.Rows.plainSeenE ao (W.looseW ao []) ⟨(am (World.params w)),⟨[]⟩,⟨0,0,0,0⟩,583,os⟩))=(fun os=>(PyProof.Rows.plainGoodE ao (W.looseW ao [])))):=by
 intro w
 rw [Fast.te2386780881361962483,Fast.te821141287760084731]
 exact DJ w
theorem CT: ∀ w:World,((fun os:OsState=>(PyProof.Rows.plainSeenD ao [] ⟨(am (World.params w)),⟨[]⟩,⟨0,0,0,0⟩,583,os⟩))=(fun os=>(PyProof.Rows.plainGoodD ao []))):=by
 intro w
 rw [Fast.te11698064438423848299]
 exact DI w
theorem CS: ∀ w:World,((fun os:OsState=>(W.wideSeen ao ⟨(am (World.params w)),⟨[]⟩,⟨0,0,0,0⟩,583,os⟩))=(fun os=>(W.wideGood ao))):=by
 intro w
 rw [Fast.te7317090234206586261]
 exact DH w
theorem CR: ∀ w:World,((fun os:OsState=>(W.clsSeenW ao [] ⟨(am (World.params w)),⟨[]⟩,⟨0,0,0,0⟩,583,os⟩))=(fun os=>(W.clsGoodW ao []))):=by
 intro w
 rw [Fast.te7369524293546568484]
 exact DG w
theorem hb:behindTheImports prog=uP++(uO++(uN++(qj++(qi++(qh++(qg++(qf++(qe++[])))))))):=by kernel_rfl
theorem run: ∀ (w:World) (os:OsState),((W.topRun treeTable prog w 11 (.some (.ref 6)) (Nat.add 12 (Nat.add 1 (Nat.add 267 (Nat.add 214 (Nat.add 214 (Nat.add 214 (Nat.add 383 (Nat.add 93 (Nat.add 504 (Nat.add 396 (Nat.add 105 2))))))))))) ⟨(W.boot_heap (World.params w)),⟨[]⟩,W.boot_drawn,W.boot_toks,os⟩ (W.topStub prog))=(.some ⟨(am (World.params w)),⟨[]⟩,⟨0,0,0,0⟩,583,os⟩)):=by
 intro w os
 refine go_top (congrFun (u47 w) os) (piece_block (congrFun (u49 w) os) ?_)
 rw [congrArg restOf hb]
 exact (piece_app (segRun_of (congrFun (u78 w) os)) (piece_app (segRun_of (congrFun (u93 w) os)) (piece_app (segRun_of (congrFun (Dj w) os)) (piece_app (segRun_of (congrFun (Di w) os)) (piece_app (segRun_of (congrFun (Dh w) os)) (piece_app (segRun_of (congrFun (Dg w) os)) (piece_app (segRun_of (congrFun (Df w) os)) (piece_app (segRun_of (congrFun (De w) os)) (piece_app (segRun_of (congrFun (Dd w) os)) (piece_nil (congrFun (Dc w) os)))))))))))
theorem p42:opening prog=plainProg prog.main.scope.names:=by kernel_rfl
theorem p43 (s:Shared):fenceModules? prog s=some s:=by kernel_rfl
theorem wh (w:World) (os:OsState):openSeen ao [] (importedModules prog.main.body) (fun s=>xlAt ao [] s && recOk lawT.row.toRowW.records s) true ⟨(am (w.params)),⟨[]⟩,⟨0,0,0,0⟩,583,os⟩=openGood ao []:=
 (looks_pair (congrFun (CZ w) os) (looks_pair (congrFun (CY w) os) (looks_pair (congrFun (CX w) os) (looks_pair (congrFun (CW w) os) (looks_pair (congrFun (CV w) os) (looks_pair (congrFun (CU w) os) (looks_pair (congrFun (CT w) os) (looks_pair (congrFun (CS w) os) (congrFun (CR w) os)))))))))
theorem left:LeftO prog ao [] (fun s=>xlAt ao [] s && recOk lawT.row.toRowW.records s) hk.obs hk.val 400000:=
 LeftO.of_pieces (boot_open p42 rfl p43) Db run rfl fun w=>funext fun os=>looks_pair (congrFun (Da w) os) (looks_pair (wh w os) (congrFun (DF w) os))
noncomputable def CF:DefRec:=⟨Str.ofString "law",fA (st 40),fB (st 40),fS (st 40),⟨241,0,260,120⟩⟩
theorem BD:LeftO lawT.row.prog ao [] (fun s=>xlAt ao [] s && recOk lawT.row.toRowW.records s) hk.obs hk.val 400000:=left
theorem Ea (walk:WalkO ao [] (XL ao []) hk.says lawT.row.toRowW CF [] (fun f vs=>call f vs)):PySem.Challenge.rw_uf050020_14.Holds:=by
 rw [zb]
 w_on; o_law
 rename_i said
 refine holds_open (N:=400000) BD hk.of hk.keeps (fun s e=>xl_of s (Bool.and_eq_true_iff.mp e).left) XL.keeps (d:=CF) (kwd:=[]) ?a ?b ?c (fun s e=>recFacts_of (Bool.and_eq_true_iff.mp e).right) ?d said ?e ?f ?g walk
 case a=>kernel_rfl
 case b=>kernel_rfl
 case c=>kernel_rfl
 case d=>kernel_rfl
 case e=>first | k_qdec | kernel_rfl
 case f=>exact ⟨rfl,rfl,rfl,rfl,rfl,by first | k_qdec | kernel_rfl⟩
 case g=>exact ⟨[.list []],by decide +kernel,by decide +kernel⟩
end Mine
open PySem PySem.W PyProof.Rows
set_option maxHeartbeats 8000000
namespace Mine
noncomputable def nms:List String:=["BadBound", "BadName", "NoStore", "NoThing", "RoomError", "SIGNS", "Store", "ValueError", "__name__", "_law_behind", "_law_board", "_law_bound", "_law_cell", "_law_cell_at", "_law_deed", "_law_deeds", "_law_deeds_by", "_law_deeds_here", "_law_draw", "_law_fill", "_law_first", "_law_found", "_law_frame", "_law_j", "_law_k", "_law_kept", "_law_kind", "_law_known", "_law_many", "_law_mine", "_law_more", "_law_name", "_law_name_here", "_law_one", "_law_order", "_law_other", "_law_other_here", "_law_plain", "_law_ranked", "_law_room", "_law_room_here", "_law_rooms", "_law_script", "_law_store", "_law_things", "_law_value", "_wall", "ahead", "append", "at", "before", "bits", "board", "bool", "both", "bound", "depth", "every", "figures", "first", "found", "held", "int", "isinstance", "join", "k", "last", "len", "list", "longer", "max", "min", "mixed", "most", "name", "need_name", "number", "number_of", "parted", "parts", "place", "places_of", "pop", "put", "range", "read", "room", "rooms", "rooms_for", "row", "rows", "self", "sign", "signs", "sorted", "split", "startswith", "store", "str", "take", "text", "thing", "things", "turn", "value", "value_in", "waiting", "with_thing", "without_thing", "word", "words", "written"]
noncomputable def msL:List (String×String):=[("put", "Store.put"),("take", "Store.take"),("depth", "Store.depth"),("board", "Store.board"),("rooms", "Store.rooms"),("things", "Store.things")]
theorem walk14:PySem.Challenge.rw_uf050020_14.Holds:=by
 apply Ea
 intro w s₀ s₁ mg mb G Y fa o pm cd doc dV kV ho hd hcd hD hmg hg args vals as hpre hlay hrd hwl hlo
 have KX:=kIn_of Y
 refine Ground.open G ?_
 intro T B D TE TW
 let C:Cx:=DC lawT.row.prog w s₁ mg mb _ KX T.g T.b T.nolimit T.builtins ["places_of", "need_name", "mixed", "signs", "without_thing", "with_thing", "value_in", "parted", "rooms_for", "written", "number_of", "read", "_law_cell_at", "_law_name", "_law_value", "_law_bound", "_law_room", "_law_deeds_by", "_law_behind", "_law_first", "_law_deeds", "_law_fill", "_law_order", "_law_other"] [("SIGNS",8)] (by kernel_rfl) 213 msL ["bound", "held"] (faK (nY w.params) 213 (("__init__", "Store.__init__")::msL)) (by kernel_rfl) (by kernel_rfl) (by kernel_rfl) ["BadName", "BadBound", "NoThing", "NoStore"] (wx KX (topRead_of T) (by kernel_rfl))
 have F_places_of:br C "places_of" ["depth"] iy:=aq C KX (l:=nms) (n:=40) (by kernel_rfl) (kT fun _=>by kernel_rfl) (by kernel_rfl)
 have F_need_name:br C "need_name" ["name"] iA:=aq C KX (l:=nms) (n:=40) (by kernel_rfl) (kT fun _=>by kernel_rfl) (by kernel_rfl)
 have F_mixed:br C "mixed" ["name"] sf:=aq C KX (l:=nms) (n:=40) (by kernel_rfl) (kT fun _=>by kernel_rfl) (by kernel_rfl)
 have F_signs:br C "signs" ["name"] se:=aq C KX (l:=nms) (n:=40) (by kernel_rfl) (kT fun _=>by kernel_rfl) (by kernel_rfl)
 have F_without_thing:br C "without_thing" ["things", "name"] dL:=aq C KX (l:=nms) (n:=40) (by kernel_rfl) (nR fun _ _=>by kernel_rfl) (by kernel_rfl)
 have F_with_thing:br C "with_thing" ["things", "name", "value"] dM:=aq C KX (l:=nms) (n:=40) (by kernel_rfl) (BC fun _ _ _=>by kernel_rfl) (by kernel_rfl)
 have F_value_in:br C "value_in" ["things", "name"] jo:=aq C KX (l:=nms) (n:=40) (by kernel_rfl) (nR fun _ _=>by kernel_rfl) (by kernel_rfl)
 have F_parted:br C "parted" ["room"] ki:=aq C KX (l:=nms) (n:=40) (by kernel_rfl) (kT fun _=>by kernel_rfl) (by kernel_rfl)
 have F_rooms_for:br C "rooms_for" ["things", "bound"] cu:=aq C KX (l:=nms) (n:=40) (by kernel_rfl) (nR fun _ _=>by kernel_rfl) (by kernel_rfl)
 have F_Store_init:br C "Store.__init__" ["self", "bound"] fW:=aq C KX (l:=nms) (n:=40) (by kernel_rfl) (nR fun _ _=>by kernel_rfl) (by kernel_rfl)
 have F_Store_put:br C "Store.put" ["self", "name", "value"] iJ:=aq C KX (l:=nms) (n:=40) (by kernel_rfl) (BC fun _ _ _=>by kernel_rfl) (by kernel_rfl)
 have F_Store_take:br C "Store.take" ["self", "name"] dN:=aq C KX (l:=nms) (n:=40) (by kernel_rfl) (nR fun _ _=>by kernel_rfl) (by kernel_rfl)
 have F_Store_depth:br C "Store.depth" ["self"] fj:=aq C KX (l:=nms) (n:=40) (by kernel_rfl) (kT fun _=>by kernel_rfl) (by kernel_rfl)
 have F_Store_board:br C "Store.board" ["self"] dj:=aq C KX (l:=nms) (n:=40) (by kernel_rfl) (kT fun _=>by kernel_rfl) (by kernel_rfl)
 have F_Store_rooms:br C "Store.rooms" ["self"] dh:=aq C KX (l:=nms) (n:=40) (by kernel_rfl) (kT fun _=>by kernel_rfl) (by kernel_rfl)
 have F_Store_things:br C "Store.things" ["self"] cI:=aq C KX (l:=nms) (n:=40) (by kernel_rfl) (kT fun _=>by kernel_rfl) (by kernel_rfl)
 have F_written:br C "written" ["store"] lB:=aq C KX (l:=nms) (n:=40) (by kernel_rfl) (kT fun _=>by kernel_rfl) (by kernel_rfl)
 have F_number_of:br C "number_of" ["word", "most"] iz:=aq C KX (l:=nms) (n:=40) (by kernel_rfl) (nR fun _ _=>by kernel_rfl) (by kernel_rfl)
 have F_read:br C "read" ["text"] uu:=aq C KX (l:=nms) (n:=40) (by kernel_rfl) (kT fun _=>by kernel_rfl) (by kernel_rfl)
 have F__law_cell_at:br C "_law_cell_at" ["_law_script", "_law_k"] fe:=aq C KX (l:=nms) (n:=40) (by kernel_rfl) (nR fun _ _=>by kernel_rfl) (by kernel_rfl)
 have F__law_name:br C "_law_name" ["_law_script", "_law_more"] js:=aq C KX (l:=nms) (n:=40) (by kernel_rfl) (nR fun _ _=>by kernel_rfl) (by kernel_rfl)
 have F__law_value:br C "_law_value" ["_law_cell", "_law_k"] iB:=aq C KX (l:=nms) (n:=40) (by kernel_rfl) (nR fun _ _=>by kernel_rfl) (by kernel_rfl)
 have F__law_bound:br C "_law_bound" ["_law_cell"] iI:=aq C KX (l:=nms) (n:=40) (by kernel_rfl) (kT fun _=>by kernel_rfl) (by kernel_rfl)
 have F__law_room:br C "_law_room" ["_law_script"] jr:=aq C KX (l:=nms) (n:=40) (by kernel_rfl) (kT fun _=>by kernel_rfl) (by kernel_rfl)
 have F__law_deeds_by:br C "_law_deeds_by" ["_law_script", "_law_k", "_law_known"] eu:=aq C KX (l:=nms) (n:=40) (by kernel_rfl) (BC fun _ _ _=>by kernel_rfl) (by kernel_rfl)
 have F__law_behind:br C "_law_behind" ["_law_plain", "_law_deed"] fV:=aq C KX (l:=nms) (n:=40) (by kernel_rfl) (nR fun _ _=>by kernel_rfl) (by kernel_rfl)
 have F__law_first:br C "_law_first" ["_law_script"] iG:=aq C KX (l:=nms) (n:=40) (by kernel_rfl) (kT fun _=>by kernel_rfl) (by kernel_rfl)
 have F__law_deeds:br C "_law_deeds" ["_law_script"] iH:=aq C KX (l:=nms) (n:=40) (by kernel_rfl) (kT fun _=>by kernel_rfl) (by kernel_rfl)
 have F__law_fill:br C "_law_fill" ["_law_store", "_law_deeds_here"] jt:=aq C KX (l:=nms) (n:=40) (by kernel_rfl) (nR fun _ _=>by kernel_rfl) (by kernel_rfl)
 have F__law_order:br C "_law_order" ["_law_plain", "_law_draw"] iE:=aq C KX (l:=nms) (n:=40) (by kernel_rfl) (nR fun _ _=>by kernel_rfl) (by kernel_rfl)
 have F__law_other:br C "_law_other" ["_law_plain", "_law_script"] iC:=aq C KX (l:=nms) (n:=40) (by kernel_rfl) (nR fun _ _=>by kernel_rfl) (by kernel_rfl)
 have F_law:br C "law" ["_law_script"] oB:=aq C KX (l:=nms) (n:=40) (by kernel_rfl) (kT fun _=>by kernel_rfl) (by kernel_rfl)
 have need: ∀ {H:List HO} {n:Int},0≤n→n≤255→Calls C 1 "need_name" [.int n] H (.ok .none) H:=fun h0 h1=>zq (k:=0) F_need_name h0 h1
 have sgns: ∀ {H:List HO} (n:Int),0≤n→n≤255→Calls C 3 "signs" [.int n] H (.ok (.str (sgn n))) H:=fun n h0 h1=>BL (k:=2) F_signs rfl (wF (k:=1) F_mixed (need h0 h1))
 have put: ∀ {H:List HO} {i j:Nat} {b:Int} {ts:Ts} (n v:Int),bT H i j b ts→ts.length≤1000000→0≤n→n≤255→Calls C 2 "Store.put" [.loc i,.int n,.int v] H (.ok (ft ts n)) (H.set j (stA b (bt ts n v))):=fun n v S hl h0 h1=>BM (k:=1) F_Store_put S (need h0 h1) (kh (k:=0) F_value_in _ n) (zn (k:=0) F_with_thing _ n v hl)
 have rfor: ∀ {H:List HO} {b:Nat} {ts:Ts},ak H→Stk b ts→Calls C 5 "rooms_for" [.lst (ts.map pr),.int b] H (.ok (.lst ((ae b ts).map aD))) H:=fun hz g=>mP (k:=4) F_rooms_for hz g.b1 g.ok fun H x h1 h2=>lx (k:=3) F_parted x h1 h2 fun n h0 h1=>sgns n h0 h1
 have rms: ∀ {H:List HO} {i j b:Nat} {ts:Ts},ak H→Stk b ts→bT H i j b ts→Calls C 6 "Store.rooms" [.loc i] H (.ok (.lst ((ae b ts).map aD))) H:=fun hz g S=>wB (k:=5) F_Store_rooms S (fD _ _) (rfor hz g)
 have dep: ∀ {H:List HO} {i j b:Nat} {ts:Ts},ak H→Stk b ts→bT H i j b ts→Calls C 7 "Store.depth" [.loc i] H (.ok (.int (bc (ae b ts):Nat))) H:=fun hz g S=>wJ (k:=6) F_Store_depth hz S (df 8 [] _) (rms hz g S)
 have plc: ∀ {H:List HO} {b:Nat} {ts:Ts},Stk b ts→Calls C 1 "places_of" [.int (bc (ae b ts):Nat)] H (.ok (.lst ((ba (bc (ae b ts))).map .str))) H:=fun g=>tL (k:=0) F_places_of (mM g)
 have brd: ∀ {H:List HO} {i j b:Nat} {ts:Ts},ak H→Stk b ts→bT H i j b ts→Calls C 8 "Store.board" [.loc i] H (.ok (.lst ((dq (ae b ts)).map .str))) H:=fun hz g S=>wL (k:=7) F_Store_board hz g S ((rfor hz g).mono (by decide)) (fun H hz S=>dep hz g S) fun H=>(plc g).mono (by decide)
 have prt: ∀ (H:List HO) (x:Rm),x.1.length < 8→(∀ t∈x.2,0≤t.1∧t.1≤255)→Calls C 4 "parted" [aD x] H (.ok (.tup [aD (x.1++[48],half x.1.length 48 x.2),aD (x.1++[49],half x.1.length 49 x.2)])) H:=fun H x h1 h2=>lx (k:=3) F_parted x h1 h2 fun n h0 h1=>sgns n h0 h1
 have lent: ∀ {H:List HO} {i j b:Nat} {ts:Ts} {idx:Nat},ak H→Stk b ts→bT H i j b ts→idx < (ae b ts).length→∃ X r p rs bs zs,rs.length=(ae b ts).length∧wU H X r p rs idx bs zs∧Calls C 10 "Store.rooms" [.loc i] H (.ok (.loc r)) (H++X):=fun hz g S hi=>by
  obtain ⟨X,r,p,rs,bs,zs,h1,h2,h3⟩:=oW (k:=4) F_rooms_for hz g hi prt fun tg H x c h1 h2 hc e1 e2=>rU (k:=3) F_parted x h1 h2 hc e1 e2 fun H n h0 h1=>sgns n h0 h1
  exact ⟨X,r,p,rs,bs,zs,h1,h2,(tK (k:=5) F_Store_rooms S h3).mono (by decide)⟩
 have wr: ∀ {H:List HO} {i j b:Nat} {ts:Ts},ak H→Stk b ts→bT H i j b ts→Calls C 7 "written" [.loc i] H (.ok (.str (iQ b ts))) H:=fun hz g S=>rQ (k:=6) F_written hz g S fun H hz S=>rms hz g S
 have val: ∀ {H:List HO} (c j:Int),Calls C 1 "_law_value" [.int c,.int j] H (.ok (.int (cy c j))) H:=fun c j=>BK (k:=0) F__law_value c j
 have hfa:C.fa "law" =some fa:=by
  obtain ⟨a,e⟩:=Option.isSome_iff_exists.mp (show (xw (nY w.params) "law").isSome=true by kernel_rfl)
  have h:=mg_of KX T.g (mC e)
  rw [show mg "law" =some (.ref fa) from hmg] at h
  cases h
  exact (show C.fa "law" =xw (nY w.params) "law" by kernel_rfl).trans e
 refine wk (C:=C) (k:=11) (n:=63) rfl rfl rfl hg rfl (by decide) hpre hwl hfa (by decide) fun ns hn=>?_
 have cell: ∀ (H:List HO) (j:Nat),Calls C 1 "_law_cell_at" [.lst (ns.map .int),.int j] H (.ok (.int (ns.getD j 0))) H:=fun H j=>rW (k:=0) F__law_cell_at ns j
 have bok:=lz (ns.getD 0 0)
 refine wG (k:=10) (b:=dK (ns.getD 0 0)) F_law rfl ⟨fun hz S hd=>(wI (k:=2) F__law_fill hz S hd (fun H ts d S ho dk=>put _ _ S (Nat.le_trans (jg ho) (by decide)) dk.1.1 dk.1.2) (fun H ts d v S dk hv=>um (k:=1) F_Store_take S (need dk.1.1 dk.1.2) (kh (k:=0) F_value_in _ _) hv (lw (k:=0) F_without_thing _ _)) (fun H ts d hz S dk hv=>wA (k:=1) F_Store_take hz S (need dk.1.1 dk.1.2) (kh (k:=0) F_value_in _ _) hv) (fun H ts d h=>(oz (k:=0) F__law_behind h d).mono (by decide))).mono (by decide),
  fun S=>(tJ (k:=0) F_Store_things S).mono (by decide),fun S=>(rR (k:=0) F_Store_things S).mono (by decide),fun hz g S=>(rms hz g S).mono (by decide),fun hz g S hi=>lent hz g S hi,fun hz g S=>(brd hz g S).mono (by decide),
  fun hz g S=>(tN (k:=7) F_Store_board hz g S ((rfor hz g).mono (by decide)) (fun H hz S=>dep hz g S) fun H=>(plc g).mono (by decide)).mono (by decide),fun hz g S=>(dep hz g S).mono (by decide),fun hz g S=>(wr hz g S).mono (by decide),
  fun hz g=>(zp (k:=7) F_read hz g (fun H i most h1 h2=>(tM (k:=0) F_number_of i h1 h2).mono (by decide)) ((rV (k:=0) F_Store_init wX uM (Int.ofNat_le.mpr g.b1) (Int.ofNat_le.mpr g.b64)).mono (by decide)) (fun us n v hl h0 h1=>(put n v stAt2 hl h0 h1).mono (by decide)) (wr (hV hz (fun _=>HO.noConfusion) fun _=>HO.noConfusion) g stAt2)).mono (by decide),
  fun ho=>(wC (k:=2) F__law_other ho rfl (fun H j=>(cell H j).mono (by decide)) (fun H c=>(zt (k:=0) F__law_bound c).mono (by decide)) ((rV (k:=0) F_Store_init wX uM (Int.ofNat_le.mpr bok.1) (Int.ofNat_le.mpr bok.2)).mono (by decide)) (fun s n v hs hn=>put n v stAt2 (Nat.le_trans (jg hs) (by decide)) hn.1 hn.2) (fun s n v hn hv=>um (k:=1) F_Store_take stAt2 (need hn.1 hn.2) (kh (k:=0) F_value_in _ _) hv (lw (k:=0) F_without_thing _ _)) (fun H d=>(wD (k:=0) F__law_order ho d).mono (by decide))).mono (by decide),fun H j=>(cell H j).mono (by decide)⟩
  (fun H c=>(zt (k:=0) F__law_bound c).mono (by decide)) (fun h1 h2 hb hb'=>(rV (k:=0) F_Store_init h1 h2 hb hb').mono (by decide))
  (fun hz=>(wK (k:=3) F__law_deeds hz hn ((wH (k:=1) F__law_first (cell _ 1) val).mono (by decide)) (fun H=>(zo (k:=0) F__law_room hn).mono (by decide)) (fun H j known hj=>Eg (k:=2) F__law_deeds_by hj known (fun H m=>zr (k:=1) F__law_name m (cell _ 1)) (fun H c j=>(val c j).mono (by decide)) (fun _ _=>rfl)) (fun H ts d h=>(oz (k:=0) F__law_behind h d).mono (by decide))).mono (by decide))
end Mine
set_option maxRecDepth 100000 in
set_option maxHeartbeats 8000000 in
theorem PySem.Challenge.cw_uf050020_14_holds : PySem.Challenge.rw_uf050020_14.Holds := by
  exact Mine.walk14
