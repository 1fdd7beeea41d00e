import PyProof.Rows.All
import PyProof.Rows.SortShell
import PyProof.Rows.SortWalk
import KE.KIsAll
import PyProof.ExcAttrAll.ValueError
import PyProof.P3Statements
import PyProof.CompFree
import PyProof.RangeIter
import PyProof.StrWalks
import PyProof.TupleIter
import PyProof.WalksMore
import PyProof.Cells
import PyProof.DefCall
import PyProof.RaisesMany
import PyProof.StationsW
import PyProof.Rows.Own
import PyProof.DictStraight
import OpenK.KWalk
import PyProof.PureInt
import PyProof.StrOps
import PyProof.Rows.RuleB_sub
import PyProof.Rows.RuleB_mul
import PyProof.Rows.RuleB_mod
import PyProof.Rows.RuleB_small
import PyProof.Rows.RuleB_floordiv
import PyProof.Rows.RuleC_int
import PyProof.Rows.RuleC_bool
import PyProof.Rows.RuleIs2
import PyProof.Rows.Nodes
import PyProof.Rows.Chain
import PyProof.Rows.EqNone
import PyProof.LetGo
import PyProof.Rows.TupSub
import PyProof.Rows.Lst
import PyProof.SliceStr2
import PyProof.SliceMore
import PyProof.Ascii
import PyProof.IsInstance
import PyProof.IsInstanceH
import PyProof.IsiNone
import PyProof.IsiFacts
import PyProof.CallStr
import PyProof.Conv_int_bool
import PyProof.DictTruth
import PyProof.DictRoads
import PyProof.ListCopy
import PyProof.RangeFor
import PyProof.Rows.Range3
import PyProof.Rows.SeqMore
import PyProof.Rows.CountFlat
import PyProof.SeqI3
import PyProof.WalkInts
import PyProof.Rows.SeqJoint
import PyProof.StrCalls3
import PyProof.Rows.EqDataRows
import PyProof.Rows.InDataRows
import PyProof.StrLawsIn
import PyProof.FString5
import KE.KSortTup
import PyProof.Rows.SortStr
import PyProof.TupleKey
import PyProof.FactsAll.tuple_2
import PyProof.DictKinds
import PyProof.StrLaws
import KE.KIntText
import KE.KDictList
import KE.KDictSum
import PyProof.StrLawsChain
import PyProof.StrLawsTight
import PyProof.MeetsStr2
import PyProof.Rows.StrJoin2
import PyProof.Rows.SeqMore2
import PyProof.Rows.StrInSeq3
import PyProof.DictCalls
import KE.KPop
import PyProof.Rows.ExtendIn
import PyProof.Rows.AttrNodeAny
import PyProof.EvalArms
import PyProof.ListIndex
import PyProof.Raises
import PyProof.AssignAttr
import PyProof.ExcClass2
import PyProof.ExcBaseAll.ValueError
import OpenK.KCall
import PyProof.RulesTry
import PyProof.RulesAs
import PyProof.NsDelKeeps
import OpenK.AllK
import Wide.All
import Wide.FinOn
import PySem.Challenge.RW_uf050020_12
set_option linter.all false
set_option bootstrap.genMatcherCode false
set_option autoImplicit false
set_option genInjectivity false
set_option genSizeOf false
set_option genSizeOfSpec false
namespace Mine
noncomputable section
inductive LT where
 | v (i:Nat) | n (k:Nat) | a (x y:LT) | m (k:Nat) (x:LT)
noncomputable def LT.den (c:List Nat):LT→Nat
 | .v i=>c.getD i 0
 | .n k=>k
 | .a x y=>x.den c+y.den c
 | .m k x=>k*x.den c
noncomputable def lP:List Nat→List Nat→List Nat
 | []=>fun q=>q
 | x::p=>fun q=>(x+q.headD 0)::lP p q.tail
noncomputable def rK (k:Nat):List Nat→List Nat
 | []=>[]
 | x::p=>k*x::rK k p
noncomputable def zu:Nat→List Nat
 | 0=>[1]
 | n+1=>0::zu n
noncomputable def LT.pol:LT→List Nat
 | .v i=>zu (i+1)
 | .n k=>[k]
 | .a x y=>lP x.pol y.pol
 | .m k x=>rK k x.pol
noncomputable def pev (p:List Nat) (c:List Nat):Nat:=match p with
 | []=>0
 | x::p=>x*c.headD 0+pev p c.tail
noncomputable def ple:List Nat→List Nat→Bool
 | []=>fun _=>true
 | x::p=>fun q=>Nat.ble x (q.headD 0) && ple p q.tail
theorem dk: ∀ (p q c:List Nat),pev (lP p q) c=pev p c+pev q c
 | [],q,c=>(Nat.zero_add _).symm
 | x::p,[],c=>by
  show (x+0)*c.headD 0+pev (lP p []) c.tail=_
  rw [dk p [] c.tail]; rfl
 | x::p,y::q,c=>by
  show (x+y)*c.headD 0+pev (lP p q) c.tail=x*c.headD 0+pev p c.tail+(y*c.headD 0+pev q c.tail)
  rw [dk p q c.tail,Nat.add_mul,Nat.add_add_add_comm]
theorem fn (k:Nat): ∀ p c:List Nat,pev (rK k p) c=k*pev p c
 | [],c=>rfl
 | x::p,c=>by
  show k*x*c.headD 0+pev (rK k p) c.tail=k*(x*c.headD 0+pev p c.tail)
  rw [fn k p c.tail,Nat.mul_add,Nat.mul_assoc]
theorem mQ: ∀ (i:Nat) (c:List Nat),pev (zu i) c=c.getD i 0
 | 0,c=>by
  show 1*c.headD 0+0=_
  rw [Nat.one_mul]; cases c<;>rfl
 | i+1,c=>by
  show 0*c.headD 0+pev (zu i) c.tail=_
  rw [Nat.zero_mul,Nat.zero_add,mQ i c.tail]; cases c<;>rfl
theorem LT.sound (c:List Nat): ∀ t:LT,t.den c=pev t.pol (1::c)
 | .v i=>(mQ (i+1) (1::c)).symm
 | .n k=>(Nat.mul_one k).symm
 | .a x y=>by rw [LT.pol,dk,← LT.sound c x,← LT.sound c y]; rfl
 | .m k x=>by rw [LT.pol,fn,← LT.sound c x]; rfl
theorem qd: ∀ (p q c:List Nat),ple p q=true→pev p c≤pev q c
 | [],q,c,_=>Nat.zero_le _
 | x::p,[],c,h=>by
  obtain ⟨h1,h2⟩:=Bool.and_eq_true_iff.mp h
  have a:=qd p [] c.tail h2
  have b:=Nat.eq_zero_of_le_zero (Nat.le_of_ble_eq_true h1)
  subst b
  show 0*_+_≤0
  rw [Nat.zero_mul,Nat.zero_add]; exact a
 | x::p,y::q,c,h=>by
  obtain ⟨h1,h2⟩:=Bool.and_eq_true_iff.mp h
  exact Nat.add_le_add (Nat.mul_le_mul_right _ (Nat.le_of_ble_eq_true h1)) (qd p q c.tail h2)
noncomputable def lhs:List (Nat×LT×LT)→List Nat
 | []=>[]
 | h::r=>lP (rK h.1 h.2.1.pol) (lhs r)
noncomputable def rhs:List (Nat×LT×LT)→List Nat
 | []=>[]
 | h::r=>lP (rK h.1 h.2.2.pol) (rhs r)
noncomputable def sY (c:List Nat) (G:Prop):List (Nat×LT×LT)→Prop
 | []=>G
 | h::r=>h.2.1.den c≤h.2.2.den c→sY c G r
theorem nc (c:List Nat) {G:Prop}: ∀ hs:List (Nat×LT×LT),(pev (lhs hs) (1::c)≤pev (rhs hs) (1::c)→G)→sY c G hs
 | [],k=>k (Nat.le_refl _)
 | h::r,k=>fun q=>nc c r fun z=>k (by
  rw [lhs,rhs,dk,dk,fn,fn,← LT.sound,← LT.sound]
  exact Nat.add_le_add (Nat.mul_le_mul_left _ q) z)
theorem lin (c:List Nat) (hs:List (Nat×LT×LT)) (m:Nat) (l r:LT) (ok:ple (lP [1] (lP (rK m l.pol) (rhs hs))) (lP [m] (lP (rK m r.pol) (lhs hs)))=true):sY c (l.den c≤r.den c) hs:=
 nc c hs fun h=>by
  have q:=qd _ _ (1::c) ok
  rw [dk,dk,dk,dk,fn,fn,← LT.sound,← LT.sound] at q
  have q:1*1+0+(m*l.den c+pev (rhs hs) (1::c))≤m*1+0+(m*r.den c+pev (lhs hs) (1::c)):=q
  refine Nat.le_of_not_lt fun z=>?_
  have z':m*(r.den c+1)≤m*l.den c:=Nat.mul_le_mul_left m z
  rw [Nat.mul_add] at z'
  lia
noncomputable def trv:Nat→LT
 | 0=>.n 1
 | j+1=>.v j
noncomputable def tr:List Nat→LT
 | []=>.n 0
 | i::r=>r.foldl (fun a j=>.a a (trv j)) (trv i)
noncomputable def trp:List (List Nat×List Nat)→List (Nat×LT×LT)
 | []=>[]
 | h::r=>(1,tr h.1,tr h.2)::trp r
theorem li (c:List Nat) (hs:List (List Nat×List Nat)) (l r:List Nat) (ok:ple (lP [1] (lP (rK 1 (tr l).pol) (rhs (trp hs)))) (lP [1] (lP (rK 1 (tr r).pol) (lhs (trp hs))))=true):sY c ((tr l).den c≤(tr r).den c) (trp hs):=
 lin c (trp hs) 1 (tr l) (tr r) ok
theorem l_e {a b:Nat} (h:a=b):a≤b:=Nat.le_of_eq h
theorem l_s {a b:Nat} (h:a=b):b≤a:=Nat.le_of_eq h.symm
theorem l_n {a b:Nat} (h: ¬ a≤b):b+1≤a:=Nat.lt_of_not_le h
theorem l_t {a b:Nat} (h: ¬ a < b):b≤a:=Nat.le_of_not_lt h
theorem l_g (a b:Nat):a≤a - b+b:=Nat.le_add_of_sub_le (Nat.le_refl _)
theorem l_d {a b:Nat} (h:b≤a):a - b+b≤a:=Nat.le_of_eq (Nat.sub_add_cancel h)
theorem l_o {a b:Nat} (h:a≤b):a - b≤0:=Nat.le_of_eq (Nat.sub_eq_zero_of_le h)
theorem l_p {a b:Nat} (h:1≤a - b):a - b+b≤a:=l_d (Nat.le_of_lt (Nat.lt_of_sub_pos h))
theorem l_m {a b:Nat} (h:a≤b):a≤min a b:=Nat.le_min.mpr ⟨Nat.le_refl _,h⟩
theorem l_r {a b:Nat} (h:b≤a):b≤min a b:=Nat.le_min.mpr ⟨h,Nat.le_refl _⟩
theorem l_x {a b:Nat} (h:b≤a):max a b≤a:=Nat.max_le.mpr ⟨Nat.le_refl _,h⟩
theorem l_y {a b:Nat} (h:a≤b):max a b≤b:=Nat.max_le.mpr ⟨h,Nat.le_refl _⟩
theorem l_a {a b:Nat} (h:a≤b) (h':b≤a):a=b:=Nat.le_antisymm h h'
theorem l_z (h:1≤0):False:=Nat.not_succ_le_zero 0 h
end
noncomputable section
open PySem PyProof.Rows
noncomputable def kAt (κ:Keyed→Int) (xs:Array Keyed) (i:Nat):Int:=(xs[i]?).elim 0 κ
theorem aU {κ:Keyed→Int} {xs ys:Array Keyed} {i j:Nat} (h:xs[i]?= ys[j]?):kAt κ xs i=kAt κ ys j:=by unfold kAt; rw [h]
structure SB (kd:SortKind) (a₀:Array Keyed) (st:SortSt):Prop where
 perm:(arrOf st).Perm a₀
 kind:kindOf st=kd
 failed:failedOf st=none
noncomputable def Seg (κ:Keyed→Int) (xs:Array Keyed) (lo hi:Nat):Prop:=∀ i j,lo≤i→i≤j→j < hi→kAt κ xs i≤kAt κ xs j
noncomputable def ii (xs ys:Array Keyed) (lo:Nat):Prop:=∀ i,i < lo→ys[i]?= xs[i]?
theorem SB.size {kd:SortKind} {a₀:Array Keyed} {st:SortSt} (h:SB kd a₀ st):(arrOf st).size=a₀.size:=h.perm.size_eq
theorem SB.setArr {kd:SortKind} {a₀:Array Keyed} {st:SortSt} (h:SB kd a₀ st) {xs:Array Keyed} (hp:xs.Perm (arrOf st)):SB kd a₀ (setArr st xs):=
 ⟨hp.trans h.perm,h.kind,h.failed⟩
theorem SB.at {kd:SortKind} {a₀:Array Keyed} {st:SortSt} (h:SB kd a₀ st) {i:Nat} (hi:i < a₀.size): ∃ p,(arrOf st)[i]?= some p∧p∈a₀.toList:=by
 have hi':i < (arrOf st).size:=by rw [h.size]; exact hi
 exact ⟨(arrOf st)[i],getElem?_pos _ i hi',(Array.perm_iff_toList_perm.mp h.perm).mem_iff.mp (by simp)⟩
section
variable {prog:Program} {w:World} {A:Around} {E:Value→Shared→Prop} {s:Shared} {kd:SortKind} {κ:Keyed→Int} {a₀:Array Keyed}
noncomputable def oI (prog:Program) (w:World) (A:Around) (E:Value→Shared→Prop) (s:Shared) (kd:SortKind) (κ:Keyed→Int) (a₀:Array Keyed):Prop:=
 ∀ x y,x∈a₀.toList→y∈a₀.toList→∀ (st:SortSt) (Q:Option Bool→SortSt→Prop),kindOf st=kd→Q (some (decide (κ x < κ y))) st→wpS (model prog w) A E s (lt' x y) Q st
theorem fV {xs:Array Keyed} {i:Nat} {p:Keyed} {st:SortSt} {Q:Keyed→SortSt→Prop} (e:xs[i]?= some p) (h:Q p st):wpS (model prog w) A E s (elem' xs i) Q st:=by
 rw [elem'_eq,e]; exact wpS_pure h
theorem gq {st:SortSt} {i j:Nat} {Q:Option Bool→SortSt→Prop} (hL:oI prog w A E s kd κ a₀) (hB:SB kd a₀ st) (hi:i < a₀.size) (hj:j < a₀.size)
  (h:Q (some (decide (kAt κ (arrOf st) i < kAt κ (arrOf st) j))) st):wpS (model prog w) A E s (ltAt' i j) Q st:=by
 obtain ⟨p,e1,m1⟩:=hB.at hi
 obtain ⟨q,e2,m2⟩:=hB.at hj
 rw [ltAt'_eq]
 refine wpS_bind (wpS_get ?_)
 refine wpS_bind (fV e1 (wpS_bind (fV e2 (hL p q m1 m2 st Q hB.kind ?_))))
 simpa only [kAt,e1,e2,Option.elim_some] using h
theorem ng {xs:Array Keyed} {src d:Nat} (hs:src < xs.size) (hd:d≤src) (k:Nat):
  kAt κ (bubble xs src d) k=if k=src - d then kAt κ xs src else if src - d < k∧k≤src then kAt κ xs (k - 1) else kAt κ xs k:=by
 have e:=getElem?_bubble hs d hd k
 by_cases h1:k=src - d
 ·rw [if_pos h1] at e ⊢; exact aU e
 ·rw [if_neg h1] at e ⊢
  by_cases h2:src - d < k∧k≤src
  ·rw [if_pos h2] at e ⊢; exact aU e
  ·rw [if_neg h2] at e ⊢; exact aU e
theorem jJ {xs:Array Keyed} {i j:Nat} (hj:j≤xs.size) (k:Nat):
  kAt κ (mirror xs i j ((j - i) / 2)) k=if i≤k∧k < j then kAt κ xs (i+j - 1 - k) else kAt κ xs k:=by
 have e:=getElem?_mirror_all (i:=i) hj k
 by_cases h1:i≤k∧k < j
 ·rw [if_pos h1] at e ⊢; exact aU e
 ·rw [if_neg h1] at e ⊢; exact aU e
theorem bU {xs:Array Keyed} {i j:Nat} (hj:j≤xs.size) (heq: ∀ k,i≤k→k < j→kAt κ xs k=kAt κ xs (j - 1)) (k:Nat):
  kAt κ (mirror xs i j ((j - i) / 2)) k=kAt κ xs k:=by
 rw [jJ hj]
 by_cases z:i≤k∧k < j
 ·rw [if_pos z,heq _ (by exact li [i,_,k,j,_] [([3,0],[4]),([1,4],[5,0]),([5],[2,3])] [1] [2] rfl z.2 (l_g _ _) (l_g _ _)) (by exact li [_,j,i,k,_] [([3],[4]),([5,0],[3,2]),([1,4],[5])] [1,0] [2] rfl z.1 (l_d (li [i,j,k] [([3,0],[2])] [0] [1,2] rfl z.2)) (l_d (li [k,_,j,i] [([1,0],[3]),([4,3],[2,0])] [1] [2] rfl z.2 (l_g _ _)))),heq k z.1 z.2]
 ·rw [if_neg z]
theorem ba {xs:Array Keyed} {i j lo:Nat} (hj:j≤xs.size) (hlo:lo≤i):ii xs (mirror xs i j ((j - i) / 2)) lo:=fun k hk=>by
 rw [getElem?_mirror_all hj k,if_neg (by exact fun q=>l_z (lin [lo,i,k] [(1,.v 0,.v 1),(1,.a (.v 2) (.n 1),.v 0),(1,.v 1,.v 2)] 0 (.n 1) (.n 0) rfl hlo hk q.1))]
theorem fJ {l r:Nat} (h: ¬ l ≥ r):l≤(l+r) / 2∧(l+r) / 2+1≤r:=
 ⟨(Nat.le_div_iff_mul_le (by decide)).mpr (by rw [Nat.mul_two]; exact Nat.add_le_add_left (Nat.le_of_not_le h) l),Nat.div_lt_of_lt_mul (by rw [Nat.two_mul]; exact Nat.add_lt_add_right (Nat.lt_of_not_le h) r)⟩
theorem to {l m r k x:Nat} (h1:l≤m) (h2:m+1≤r) (hm:r - l≤k - x):m - l≤k - (x+1):=by
 have:m - l+1≤r - l:=by rw [← Nat.sub_add_comm h1]; exact Nat.sub_le_sub_right h2 l
 exact (Nat.le_sub_of_add_le (Nat.le_trans this hm):m - l≤k - x - 1)
theorem tq {l m r k x:Nat} (h1:l≤m) (hm:r - l≤k - x):r - (m+1)≤k - (x+1):=Nat.sub_le_sub_right (Nat.le_trans (Nat.sub_le_sub_left h1 r) hm) 1
theorem tx {p q k:Nat} {a b c:Int} (h:k < p):(if k=p then a else if p < k∧k≤q then b else c)=c:=by rw [if_neg (Nat.ne_of_lt h),if_neg fun z=>Nat.lt_asymm h z.1]
theorem nq {p q k:Nat} {a b c:Int} (h:p < k) (h':k≤q):(if k=p then a else if p < k∧k≤q then b else c)=b:=by rw [if_neg (Nat.ne_of_gt h),if_pos ⟨h,h'⟩]
theorem yR {f:Nat→Int} {lo p q i j:Nat} (hs: ∀ i j,lo≤i→i≤j→j < q→f i≤f j) (hl: ∀ i,lo≤i→i < p→f i≤f q) (hh: ∀ i,p≤i→i < q→f q < f i) (hlp:lo≤p) (hpq:p≤q) (h1:lo≤i) (h2:i≤j) (h3:j < q+1):
  (if i=p then f q else if p < i∧i≤q then f (i - 1) else f i)≤(if j=p then f q else if p < j∧j≤q then f (j - 1) else f j):=by
 have jq:j≤q:=Nat.le_of_lt_succ h3
 rcases Nat.lt_trichotomy i p with a | a | a
 ·rw [tx a]
  rcases Nat.lt_trichotomy j p with b | b | b
  ·rw [tx b]; exact hs i j h1 h2 (Nat.lt_of_lt_of_le b hpq)
  ·rw [if_pos b]; exact hl i h1 a
  ·rw [nq b jq]; exact hs i (j - 1) h1 (Nat.le_sub_one_of_lt (Nat.lt_trans a b)) (Nat.lt_of_lt_of_le (Nat.sub_one_lt_of_lt b) jq)
 ·rw [if_pos a]
  rcases Nat.eq_or_lt_of_le (a▸h2:p≤j) with b | b
  ·rw [if_pos b.symm]; exact Int.le_refl _
  ·rw [nq b jq]; exact Int.le_of_lt (hh (j - 1) (Nat.le_sub_one_of_lt b) (Nat.lt_of_lt_of_le (Nat.sub_one_lt_of_lt b) jq))
 ·have b:p < j:=Nat.lt_of_lt_of_le a h2
  rw [nq a (Nat.le_trans h2 jq),nq b jq]
  exact hs (i - 1) (j - 1) (Nat.le_trans hlp (Nat.le_sub_one_of_lt a)) (Nat.sub_le_sub_right h2 1) (Nat.lt_of_lt_of_le (Nat.sub_one_lt_of_lt b) jq)
theorem ly {st:SortSt} {lo n ok:Nat} {Q:Bool→SortSt→Prop} (hL:oI prog w A E s kd κ a₀) (hn:lo+n≤a₀.size) (hok:ok≤n) (hB:SB kd a₀ st) (hs:Seg κ (arrOf st) lo (lo+ok))
  (h: ∀ st',SB kd a₀ st'→pendingOf st'=pendingOf st→Seg κ (arrOf st') lo (lo+n)→ii (arrOf st) (arrOf st') lo→Q true st'):wpS (model prog w) A E s (binarySort' lo n ok) Q st:=by
 rw [binarySort'_eq]
 refine wpS_bind (wpS_mono (wpS_forRange (I:=fun k c st'=>c=(none,())∧SB kd a₀ st'∧pendingOf st'=pendingOf st∧ii (arrOf st) (arrOf st') lo∧Seg κ (arrOf st') lo (lo+min k n))
  (Q:=fun c st'=>c=(none,())∧SB kd a₀ st'∧pendingOf st'=pendingOf st∧ii (arrOf st) (arrOf st') lo∧Seg κ (arrOf st') lo (lo+n)) ?step ?fin ?init) ?post)
 case post=>
  rintro c st' ⟨rfl,hB',hp,ha,hs'⟩
  exact wpS_pure (h st' hB' hp hs' ha)
 case init=>
  refine ⟨rfl,hB,rfl,fun _ _=>rfl,fun i j hl hij hj=>?_⟩
  by_cases h1:ok=0
  ·have:i=j:=by exact l_a (hij) (li [j,i,lo,_,_] [([3],[2]),([1,0],[3,4]),([5],[0]),([4],[5])] [1] [2] rfl hl hj (l_y (li [ok] [([1],[])] [1] [0] rfl (l_e h1))) (Nat.min_le_left _ _))
   subst this; exact Int.le_refl _
  ·exact hs i j hl hij (by exact li [j,lo,ok,_,_] [([1,0],[2,4]),([5],[3]),([4],[5])] [1,0] [2,3] rfl hj (l_x (lin [ok] [(1,.a (.n 0) (.n 1),.v 0)] 1 (.n 1) (.v 0) rfl (Nat.lt_of_le_of_ne (li [ok] [] [] [1] rfl ) (Ne.symm h1)))) (Nat.min_le_left _ _))
 case fin=>
  rintro c st' ⟨hc,hB',hp,ha,hs'⟩
  refine ⟨hc,hB',hp,ha,?_⟩
  rwa [show min (max (max ok 1) n) n=n by exact Nat.min_eq_right ((Nat.le_max_right _ _))] at hs'
 case step=>
  rintro k c st' hak hkn ⟨rfl,hB',hp,ha,hs'⟩
  rw [show min k n=k by exact Nat.min_eq_left (li [k,n] [([1,0],[2])] [1] [2] rfl hkn)] at hs'
  have hk:lo+k < a₀.size:=by exact li [lo,k,_,n] [([1,4],[3]),([2,0],[4])] [1,2,0] [3] rfl hn hkn
  refine wpS_bind (wpS_mono (wpS_forRange (I:=fun x c st''=>st''=st'∧∃ l r,c=(none,l,r)∧l≤r∧r≤k∧r - l≤k - x∧
    (∀ i,i < l→kAt κ (arrOf st') (lo+i)≤kAt κ (arrOf st') (lo+k))∧(∀ i,r≤i→i < k→kAt κ (arrOf st') (lo+k) < kAt κ (arrOf st') (lo+i)))
   (Q:=fun c st''=>st''=st'∧∃ l r,c=(none,l,r)∧l≤k∧
    (∀ i,i < l→kAt κ (arrOf st') (lo+i)≤kAt κ (arrOf st') (lo+k))∧(∀ i,l≤i→i < k→kAt κ (arrOf st') (lo+k) < kAt κ (arrOf st') (lo+i))) ?istep ?ifin ?iinit) ?ipost)
  case iinit=>exact ⟨rfl,0,k,rfl,by exact li [k] [] [] [1] rfl,by exact li [k] [] [1] [1] rfl,by exact li [_] [] [1] [1] rfl,fun i hi=>by exact (l_z (lin [i] [(1,.a (.v 0) (.n 1),.n 0)] 0 (.n 1) (.n 0) rfl hi)).elim,fun i h1 h2=>by exact (l_z (lin [k,i] [(1,.v 0,.v 1),(1,.a (.v 1) (.n 1),.v 0)] 0 (.n 1) (.n 0) rfl h1 h2)).elim⟩
  case ifin=>
   rintro c st'' ⟨rfl,l,r,rfl,hlr,hrk,hm,hlo,hhi⟩
   have:l=r:=by exact l_a (hlr) (li [r,l,_,_,k,_] [([3],[4]),([1],[3,2]),([5],[6]),([4,6],[5])] [1] [2] rfl hm (l_g _ _) (Nat.le_max_right _ _) (l_d ((l_y (li [k] [] [] [1] rfl )))))
   subst this
   exact ⟨rfl,l,l,rfl,hrk,hlo,hhi⟩
  case istep=>
   rintro x c st'' _ hxk ⟨rfl,l,r,rfl,hlr,hrk,hm,hlo,hhi⟩
   dsimp only
   by_cases hge:l ≥ r
   ·rw [if_pos hge]
    have:l=r:=by exact l_a (hlr) (hge)
    subst this
    exact wpS_pure ⟨rfl,l,l,rfl,hrk,hlo,hhi⟩
   ·rw [if_neg hge]
    refine wpS_bind (gq hL hB' hk (Nat.lt_trans (Nat.add_lt_add_left (Nat.lt_of_lt_of_le (fJ hge).2 hrk) lo) hk) ?_)
    by_cases hless:kAt κ (arrOf st'') (lo+k) < kAt κ (arrOf st'') (lo+(l+r) / 2)
    ·simp only [hless,decide_true,if_true]
     refine wpS_pure ⟨rfl,l,(l+r) / 2,rfl,(fJ hge).1,Nat.le_trans (Nat.le_of_succ_le (fJ hge).2) hrk,to (fJ hge).1 (fJ hge).2 hm,hlo,fun i h1 h2=>?_⟩
     exact Int.lt_of_lt_of_le hless (hs' _ _ (by exact li [lo,_] [] [1] [1,2] rfl) (by exact li [lo,_,i] [([2],[3])] [1,2] [1,3] rfl h1) (by exact li [lo,i,k] [([2,0],[3])] [1,2,0] [1,3] rfl h2))
    ·simp only [hless,decide_false,Bool.false_eq_true,if_false]
     refine wpS_pure ⟨rfl,(l+r) / 2+1,r,rfl,(fJ hge).2,hrk,tq (fJ hge).1 hm,fun i h1=>?_,hhi⟩
     exact Int.le_trans (hs' (lo+i) (lo+(l+r) / 2) (Nat.le_add_right _ _) (Nat.add_le_add_left (Nat.le_of_lt_succ h1) lo) (Nat.add_lt_add_left (Nat.lt_of_lt_of_le (fJ hge).2 hrk) lo)) (Int.not_lt.mp hless)
  case ipost=>
   rintro c st'' ⟨rfl,l,r,rfl,hlk,hlo,hhi⟩
   show wpS _ _ _ _ (do moveDown' (lo+k) (lo+l); pure (ForInStep.yield (none,()))) _ _
   rw [moveDown'_eq]
   have hks:lo+k < (arrOf st'').size:=by rw [hB'.size]; exact hk
   have hd:lo+k - (lo+k - (lo+l))=lo+l:=by exact l_a (lin [_,lo,l,k,_] [(1,.a (.v 1) (.v 3),.a (.v 4) (.a (.v 1) (.v 2))),(1,.a (.v 0) (.v 4),.a (.v 1) (.v 3))] 1 (.v 0) (.a (.v 1) (.v 2)) rfl (l_g _ _) (l_d (lin [_,lo,k,l] [(1,.a (.v 0) (.a (.v 1) (.v 3)),.a (.v 1) (.v 2))] 1 (.v 0) (.a (.v 1) (.v 2)) rfl (l_d (li [lo,l,k] [([2],[3])] [1,2] [1,3] rfl hlk))))) (lin [lo,l,_,_,k] [(1,.a (.v 3) (.a (.v 0) (.v 1)),.a (.v 0) (.v 4)),(1,.a (.v 0) (.v 4),.a (.v 2) (.v 3))] 1 (.a (.v 0) (.v 1)) (.v 2) rfl (l_d (li [lo,l,k] [([2],[3])] [1,2] [1,3] rfl hlk)) (l_g _ _))
   refine wpS_bind (wpS_modify (wpS_pure ⟨rfl,hB'.setArr (bubble_perm _ _ _),hp,fun i hi=>?_,?_⟩))
   ·show (bubble (arrOf st'') (lo+k) (lo+k - (lo+l)))[i]?= _
    rw [getElem?_bubble hks _ (by exact li [_,lo,k,_] [([4,1],[2,3])] [1] [2,3] rfl (l_p (li [_,lo,l,i] [([2,3],[1]),([4,0],[2])] [0] [1] rfl (l_s hd) hi))) i,if_neg (by exact fun q=>l_z (lin [lo,l,_,i] [(1,.a (.v 0) (.v 1),.v 2),(1,.a (.v 3) (.n 1),.v 0),(1,.v 2,.v 3)] 0 (.n 1) (.n 0) rfl (l_s hd) hi (l_s q))),if_neg (by exact fun q=>l_z (lin [lo,l,_,i] [(1,.a (.v 0) (.v 1),.v 2),(1,.a (.v 3) (.n 1),.v 0),(1,.a (.v 2) (.n 1),.v 3)] 0 (.n 1) (.n 0) rfl (l_s hd) hi q.1))]
    exact ha i hi
   ·rw [show min (k+1) n=k+1 by exact Nat.min_eq_left (hkn)]
    intro i j hli hij hj
    show kAt κ (bubble (arrOf st'') (lo+k) (lo+k - (lo+l))) i≤kAt κ (bubble (arrOf st'') (lo+k) (lo+k - (lo+l))) j
    rw [ng hks (by exact li [_,lo,k,_] [([4,1],[2,3])] [1] [2,3] rfl (l_d (lin [_,lo,k,l] [(1,.a (.v 0) (.a (.v 1) (.v 3)),.a (.v 1) (.v 2))] 1 (.v 0) (.a (.v 1) (.v 2)) rfl (l_d (li [lo,l,k] [([2],[3])] [1,2] [1,3] rfl hlk))))),ng hks (by exact li [_,lo,k,_] [([4,1],[2,3])] [1] [2,3] rfl (l_d (lin [_,lo,k,l] [(1,.a (.v 0) (.a (.v 1) (.v 3)),.a (.v 1) (.v 2))] 1 (.v 0) (.a (.v 1) (.v 2)) rfl (l_d (li [lo,l,k] [([2],[3])] [1,2] [1,3] rfl hlk))))),hd]
    have hlo': ∀ i,lo≤i→i < lo+l→kAt κ (arrOf st'') i≤kAt κ (arrOf st'') (lo+k):=fun i h1 h2=>by
     have:=hlo (i - lo) (by exact li [_,l,i,lo] [([3,0],[4,2]),([1,4],[3])] [1,0] [2] rfl h2 (l_d (h1))); rwa [show lo+(i - lo)=i by exact l_a (li [lo,_,i] [([2,1],[3])] [1,2] [3] rfl (l_d (h1))) (li [i,lo,_] [([1],[3,2])] [1] [2,3] rfl (l_g _ _))] at this
    have hhi': ∀ i,lo+l≤i→i < lo+k→kAt κ (arrOf st'') (lo+k) < kAt κ (arrOf st'') i:=fun i h1 h2=>by
     have:=hhi (i - lo) (by exact li [l,_,lo,i] [([3,1],[4]),([4],[2,3])] [1] [2] rfl h1 (l_g _ _)) (by exact li [_,k,i,lo] [([3,0],[4,2]),([1,4],[3])] [1,0] [2] rfl h2 (l_d (li [lo,i,l] [([1,3],[2])] [1] [2] rfl h1))); rwa [show lo+(i - lo)=i by exact l_a (li [lo,_,i] [([2,1],[3])] [1,2] [3] rfl (l_d (li [lo,i,l] [([1,3],[2])] [1] [2] rfl h1))) (li [i,lo,_] [([1],[3,2])] [1] [2,3] rfl (l_g _ _))] at this
    exact yR hs' hlo' hhi' (Nat.le_add_right _ _) (Nat.add_le_add_left hlk lo) hli hij hj
end
end
noncomputable section
open PySem PyProof.Rows
noncomputable def oK (κ:Keyed→Int) (xs:Array Keyed) (lo hi:Nat):Prop:=∀ i j,lo≤i→i≤j→j < hi→kAt κ xs j≤kAt κ xs i
section
variable {prog:Program} {w:World} {A:Around} {E:Value→Shared→Prop} {s:Shared} {kd:SortKind} {κ:Keyed→Int} {a₀:Array Keyed}
theorem Seg.more {xs:Array Keyed} {lo x:Nat} (h:Seg κ xs lo x) (hl:lo < x) (hx: ¬ kAt κ xs x < kAt κ xs (x - 1)):Seg κ xs lo (x+1):=fun i j hi hij hj=>by
 by_cases hjx:j < x
 ·exact h i j hi hij hjx
 ·obtain rfl:j=x:=by exact l_a (li [j,x] [([1,0],[2,0])] [1] [2] rfl hj) ((l_t hjx))
  by_cases hi':i=j
  ·subst hi'; exact Int.le_refl _
  ·exact Int.le_trans (h i (j - 1) hi (by exact li [i,j - 1,j] [([1,0],[3]),([3],[2,0])] [1] [2] rfl (Nat.lt_of_le_of_ne (hij) hi') (l_g (j) (1))) (by exact (l_d (li [j,lo] [([2,0],[1])] [0] [1] rfl hl)))) (Int.not_lt.mp hx)
theorem oK.more {xs:Array Keyed} {lo x:Nat} (h:oK κ xs lo x) (hl:lo < x) (hx:kAt κ xs x≤kAt κ xs (x - 1)):oK κ xs lo (x+1):=fun i j hi hij hj=>by
 by_cases hjx:j < x
 ·exact h i j hi hij hjx
 ·obtain rfl:j=x:=by exact l_a (li [j,x] [([1,0],[2,0])] [1] [2] rfl hj) ((l_t hjx))
  by_cases hi':i=j
  ·subst hi'; exact Int.le_refl _
  ·exact Int.le_trans hx (h i (j - 1) hi (by exact li [i,j - 1,j] [([1,0],[3]),([3],[2,0])] [1] [2] rfl (Nat.lt_of_le_of_ne (hij) hi') (l_g (j) (1))) (by exact (l_d (li [j,lo] [([2,0],[1])] [0] [1] rfl hl))))
theorem oK.same {xs ys:Array Keyed} {lo x:Nat} (h:oK κ xs lo x) (e: ∀ k,kAt κ ys k=kAt κ xs k):oK κ ys lo x:=fun i j a b c=>by rw [e,e]; exact h i j a b c
theorem ii.trans {xs ys zs:Array Keyed} {lo:Nat} (h:ii xs ys lo) (h':ii ys zs lo):ii xs zs lo:=fun i hi=>(h' i hi).trans (h i hi)
theorem gr {st:SortSt} {lo a nrem:Nat} {β:Type} {g:Nat→β} {bad:Nat→β} {f:Nat→β→StateT SortSt Sem (ForInStep β)} {Q:β→SortSt→Prop} (hL:oI prog w A E s kd κ a₀) (hn:lo+nrem≤a₀.size) (ha:1≤a) (han:a≤nrem) (hB:SB kd a₀ st)
  (hf: ∀ i x,f i (g x)=(do
   let __x ← ltAt' (lo+x) (lo+x - 1)
   match __x with
   | some smaller=>if smaller=true then pure (ForInStep.done (g x)) else pure (ForInStep.yield (g (x+1)))
   | _=>pure (ForInStep.done (bad x))))
  (hs:Seg κ (arrOf st) lo (lo+a))
  (h: ∀ n,a≤n→n≤nrem→Seg κ (arrOf st) lo (lo+n)→(n=nrem∨kAt κ (arrOf st) (lo+n) < kAt κ (arrOf st) (lo+n - 1))→Q (g n) st):
  wpS (model prog w) A E s (forIn [a:nrem] (g a) f) Q st:=by
 refine wpS_forRange (I:=fun x c st'=>st'=st∧c=g x∧Seg κ (arrOf st) lo (lo+x)) ?step ?fin ⟨rfl,rfl,hs⟩
 case fin=>
  rintro c st' ⟨rfl,rfl,hs'⟩
  rw [show max a nrem=nrem by exact Nat.max_eq_right (han)] at hs' ⊢
  exact h nrem han (Nat.le_refl _) hs' (.inl rfl)
 case step=>
  rintro x c st' hax hxn ⟨rfl,rfl,hs'⟩
  rw [hf]
  refine wpS_bind (gq hL hB (by exact li [lo,x,a₀.size,nrem] [([1,4],[3]),([2,0],[4])] [1,2,0] [3] rfl hn hxn) (by exact li [lo+x - 1,a₀.size,lo,nrem,x] [([3,4],[2]),([5,0],[4]),([1,0],[3,5])] [1,0] [2] rfl hn hxn (l_d (li [lo,x,a] [([0],[3]),([3],[2])] [0] [1,2] rfl ha hax))) ?_)
  by_cases hless:kAt κ (arrOf st') (lo+x) < kAt κ (arrOf st') (lo+x - 1)
  ·simp only [hless,decide_true,if_true]
   exact wpS_pure (h x hax (by exact li [x,nrem] [([1,0],[2])] [1] [2] rfl hxn) hs' (.inr hless))
  ·simp only [hless,decide_false,Bool.false_eq_true,if_false]
   exact wpS_pure ⟨rfl,rfl,hs'.more (by exact li [lo,x,a] [([0],[3]),([3],[2])] [1,0] [1,2] rfl ha hax) hless⟩
theorem my {st:SortSt} {lo n nrem:Nat} {β:Type} {g:Nat→Nat→β} {bad:Nat→Nat→β} {f:Nat→β→StateT SortSt Sem (ForInStep β)} {Q:β→SortSt→Prop} (hL:oI prog w A E s kd κ a₀) (hn:lo+nrem≤a₀.size) (h1:1≤n) (hnn:n≤nrem) (hB:SB kd a₀ st)
  (hf: ∀ i x q,f i (g x q)=(do
   let __x ← ltAt' (lo+x) (lo+x - 1)
   match __x with
   | some smaller=>
    if smaller=true then
     if q > 0 then do
      reverseSlice' (lo+x - (q+1)) (lo+x)
      pure (ForInStep.yield (g (x+1) 0))
     else pure (ForInStep.yield (g (x+1) 0))
    else do
     let __x ← ltAt' (lo+x - 1) (lo+x)
     match __x with
     | some larger=>if larger=true then pure (ForInStep.done (g x q)) else pure (ForInStep.yield (g (x+1) (q+1)))
     | _=>pure (ForInStep.done (bad x q))
   | _=>pure (ForInStep.done (bad x q))))
  (hs:oK κ (arrOf st) lo (lo+n))
  (h: ∀ m q st',SB kd a₀ st'→pendingOf st'=pendingOf st→ii (arrOf st) (arrOf st') lo→n≤m→m≤nrem→oK κ (arrOf st') lo (lo+m)→q+1≤m→(∀ i,lo+m - (q+1)≤i→i < lo+m→kAt κ (arrOf st') i=kAt κ (arrOf st') (lo+m - 1))→Q (g m q) st'):
  wpS (model prog w) A E s (forIn [n:nrem] (g n 0) f) Q st:=by
 refine wpS_forRange (I:=fun x c st'=>∃ q,c=g x q∧SB kd a₀ st'∧pendingOf st'=pendingOf st∧ii (arrOf st) (arrOf st') lo∧oK κ (arrOf st') lo (lo+x)∧q+1≤x∧
   (∀ i,lo+x - (q+1)≤i→i < lo+x→kAt κ (arrOf st') i=kAt κ (arrOf st') (lo+x - 1))) ?step ?fin ⟨0,rfl,hB,rfl,fun _ _=>rfl,hs,by exact lin [n] [(1,.n 1,.v 0)] 1 (.a (.n 0) (.n 1)) (.v 0) rfl h1,fun i h1 h2=>by congr 1; exact l_a (lin [i,lo+n - (0+1),lo,n] [(1,.a (.v 0) (.n 1),.a (.v 2) (.v 3)),(1,.a (.v 2) (.v 3),.a (.v 1) (.a (.n 0) (.n 1)))] 1 (.v 0) (.v 1) rfl h2 (l_g (lo+n) (0+1))) (h1)⟩
 case fin=>
  rintro c st' ⟨q,rfl,hB',hp,ha,hs',hq,he⟩
  rw [show max n nrem=nrem by exact Nat.max_eq_right (hnn)] at hs' hq he ⊢
  exact h nrem q st' hB' hp ha hnn (Nat.le_refl _) hs' hq he
 case step=>
  rintro x c st' hax hxn ⟨q,rfl,hB',hp,ha,hs',hq,he⟩
  have hsz:lo+x≤(arrOf st').size:=by rw [hB'.size]; exact li [lo,x,a₀.size,nrem] [([1,4],[3]),([2,0],[4])] [1,2] [3] rfl hn hxn
  have hone: ∀ (xs:Array Keyed) (i:Nat),lo+(x+1) - (0+1)≤i→i < lo+(x+1)→kAt κ xs i=kAt κ xs (lo+(x+1) - 1):=fun xs i h1 h2=>by congr 1; exact l_a (lin [i,lo+(x+1) - (0+1),lo,x] [(1,.a (.v 0) (.n 1),.a (.v 2) (.a (.v 3) (.n 1))),(1,.a (.v 2) (.a (.v 3) (.n 1)),.a (.v 1) (.a (.n 0) (.n 1)))] 1 (.v 0) (.v 1) rfl h2 (l_g (lo+(x+1)) (0+1))) (h1)
  rw [hf]
  refine wpS_bind (gq hL hB' (by exact li [lo,x,a₀.size,nrem] [([1,4],[3]),([2,0],[4])] [1,2,0] [3] rfl hn hxn) (by exact li [lo+x - 1,a₀.size,lo,nrem,x] [([3,4],[2]),([5,0],[4]),([1,0],[3,5])] [1,0] [2] rfl hn hxn (l_d (li [lo,x,q] [([3,0],[2])] [0] [1,2] rfl hq))) ?_)
  by_cases hless:kAt κ (arrOf st') (lo+x) < kAt κ (arrOf st') (lo+x - 1)
  ·simp only [hless,decide_true,if_true]
   have hd:=hs'.more (by exact li [lo,x,q] [([3,0],[2])] [1,0] [1,2] rfl hq) (Int.le_of_lt hless)
   by_cases hq0:q > 0
   ·rw [if_pos hq0]
    exact wpS_bind (wpS_reverse (wpS_pure ⟨0,rfl,hB'.setArr (mirror_perm _ _ _ _),hp,ha.trans (ba hsz (by exact li [lo,lo+x - (q+1),q,x] [([3,0],[4]),([1,4],[2,3,0])] [1] [2] rfl hq (l_g (lo+x) (q+1)))),hd.same (bU hsz he),by exact lin [x] [] 1 (.a (.n 0) (.n 1)) (.a (.v 0) (.n 1)) rfl,hone _⟩))
   ·rw [if_neg hq0]
    exact wpS_pure ⟨0,rfl,hB',hp,ha,hd,by exact lin [x] [] 1 (.a (.n 0) (.n 1)) (.a (.v 0) (.n 1)) rfl,hone _⟩
  ·simp only [hless,decide_false,Bool.false_eq_true,if_false]
   refine wpS_bind (gq hL hB' (by exact li [lo+x - 1,a₀.size,lo,nrem,x] [([3,4],[2]),([5,0],[4]),([1,0],[3,5])] [1,0] [2] rfl hn hxn (l_d (li [lo,x,q] [([3,0],[2])] [0] [1,2] rfl hq))) (by exact li [lo,x,a₀.size,nrem] [([1,4],[3]),([2,0],[4])] [1,2,0] [3] rfl hn hxn) ?_)
   by_cases hlarger:kAt κ (arrOf st') (lo+x - 1) < kAt κ (arrOf st') (lo+x)
   ·simp only [hlarger,decide_true,if_true]
    exact wpS_pure (h x q st' hB' hp ha hax (by exact li [x,nrem] [([1,0],[2])] [1] [2] rfl hxn) hs' hq he)
   ·simp only [hlarger,decide_false,Bool.false_eq_true,if_false]
    have heqx:kAt κ (arrOf st') (lo+x)=kAt κ (arrOf st') (lo+x - 1):=by exact Int.le_antisymm (Int.not_lt.mp hlarger) (Int.not_lt.mp hless)
    refine wpS_pure ⟨q+1,rfl,hB',hp,ha,hs'.more (by exact li [lo,x,q] [([3,0],[2])] [1,0] [1,2] rfl hq) (by exact (Int.not_lt.mp hlarger)),by exact li [q,x] [([1,0],[2])] [1,0,0] [2,0] rfl hq,fun i h1 h2=>?_⟩
    rw [show lo+(x+1) - 1=lo+x by exact l_a (li [lo+(x+1) - 1,lo,x] [([1,0],[2,3,0])] [1] [2,3] rfl (l_d (li [lo,x] [] [0] [1,2,0] rfl ))) (li [lo,x,lo+(x+1) - 1] [([1,2,0],[3,0])] [1,2] [3] rfl (l_g (lo+(x+1)) (1)))]
    by_cases hix:i=lo+x
    ·subst hix; rfl
    ·rw [heqx]; exact he i (by exact li [lo+x - (q+1),i,lo+(x+1) - (q+1+1),lo,x,q] [([3],[2]),([4,5,0],[3,6,0,0]),([1,6,0],[4,5])] [1] [2] rfl h1 (l_g (lo+(x+1)) (q+1+1)) (l_d (li [q,lo,x,lo+(x+1) - (q+1+1)] [([4,1,0,0],[2,3,0])] [1,0] [2,3] rfl (l_d (li [q,lo,x] [([1,0],[3])] [1,0,0] [2,3,0] rfl hq))))) (by exact (Nat.lt_of_le_of_ne (li [i,lo,x] [([1,0],[2,3,0])] [1] [2,3] rfl h2) hix))
theorem oK.turn {xs:Array Keyed} {lo m:Nat} (hsz:lo+m≤xs.size) (h:oK κ xs lo (lo+m)):Seg κ (mirror xs lo (lo+m) ((lo+m - lo) / 2)) lo (lo+m):=fun i j hi hij hj=>by
 rw [jJ hsz,jJ hsz,if_pos (by exact ⟨hi,li [i,lo,m,j] [([1],[4]),([4,0],[2,3])] [1,0] [2,3] rfl hij hj⟩),if_pos (by exact ⟨li [lo,j,i] [([1],[3]),([3],[2])] [1] [2] rfl hi hij,hj⟩)]
 exact h _ _ (by exact lin [lo,lo+(lo+m) - 1 - j,j,m,lo+(lo+m) - 1] [(1,.a (.v 2) (.n 1),.a (.v 0) (.v 3)),(1,.a (.v 0) (.a (.v 0) (.v 3)),.a (.v 4) (.n 1)),(1,.v 4,.a (.v 1) (.v 2))] 1 (.v 0) (.v 1) rfl hj (l_g (lo+(lo+m)) (1)) (l_g (lo+(lo+m) - 1) (j))) (by exact li [lo+(lo+m) - 1 - j,lo+(lo+m) - 1 - i,i,j,lo+(lo+m) - 1] [([3],[4]),([1,4],[5]),([5],[2,3])] [1] [2] rfl hij (l_d (lin [j,lo+(lo+m) - 1,lo,m] [(1,.a (.v 0) (.n 1),.a (.v 2) (.v 3)),(1,.a (.v 2) (.a (.v 2) (.v 3)),.a (.v 1) (.n 1))] 1 (.v 0) (.v 1) rfl hj (l_g (lo+(lo+m)) (1)))) (l_g (lo+(lo+m) - 1) (i))) (by exact lin [lo+(lo+m) - 1 - i,lo,m,i,lo+(lo+m) - 1] [(1,.v 1,.v 3),(1,.a (.v 4) (.n 1),.a (.v 1) (.a (.v 1) (.v 2))),(1,.a (.v 0) (.v 3),.v 4)] 1 (.a (.v 0) (.n 1)) (.a (.v 1) (.v 2)) rfl hi (l_d (lin [lo,m,j] [(1,.a (.v 2) (.n 1),.a (.v 0) (.v 1))] 1 (.n 1) (.a (.v 0) (.a (.v 0) (.v 1))) rfl hj)) (l_d (lin [i,lo+(lo+m) - 1,j,lo,m] [(1,.v 0,.v 2),(1,.a (.v 2) (.n 1),.a (.v 3) (.v 4)),(1,.a (.v 3) (.a (.v 3) (.v 4)),.a (.v 1) (.n 1))] 1 (.v 0) (.v 1) rfl hij hj (l_g (lo+(lo+m)) (1)))))
theorem oZ {st:SortSt} {lo nrem:Nat} {Q:Option Nat→SortSt→Prop} (hL:oI prog w A E s kd κ a₀) (hn:lo+nrem≤a₀.size) (h1:1≤nrem) (hB:SB kd a₀ st)
  (h: ∀ m st',SB kd a₀ st'→pendingOf st'=pendingOf st→ii (arrOf st) (arrOf st') lo→1≤m→m≤nrem→Seg κ (arrOf st') lo (lo+m)→Q (some m) st'):
  wpS (model prog w) A E s (countRun' lo nrem) Q st:=by
 have hone: ∀ xs:Array Keyed,Seg κ xs lo (lo+1):=fun xs i j hi hij hj=>by
  obtain rfl:i=j:=by exact l_a (hij) (li [j,i,lo] [([3],[2]),([1,0],[3,0])] [1] [2] rfl hi hj)
  exact Int.le_refl _
 rw [countRun'_eq]
 refine wpS_bind (gr (g:=fun n=>(none,n)) (bad:=fun n=>(some none,n)) hL hn (Nat.le_refl 1) h1 hB (fun i x=>rfl) (hone _) fun n hn1 hn2 hsn hor=>?_)
 dsimp only
 by_cases hnn:n=nrem
 ·rw [if_pos (by simpa using hnn)]
  exact wpS_pure (h n st hB rfl (fun _ _=>rfl) hn1 hn2 hsn)
 ·rw [if_neg (by simpa using hnn)]
  have hlt:kAt κ (arrOf st) (lo+n) < kAt κ (arrOf st) (lo+n - 1):=hor.resolve_left hnn
  have hsz:lo+n≤(arrOf st).size:=by rw [hB.size]; exact li [lo,n,a₀.size,nrem] [([1,4],[3]),([2],[4])] [1,2] [3] rfl hn hn2
  by_cases hgt:n > 1
  ·rw [if_pos hgt]
   refine wpS_bind (gq hL hB (by exact li [lo,a₀.size,nrem] [([1,3],[2]),([0],[3])] [1,0] [2] rfl hn h1) (by exact li [lo+n - 1,a₀.size,lo,nrem,n] [([3,4],[2]),([5],[4]),([1,0],[3,5])] [1,0] [2] rfl hn hn2 (l_d (li [lo,n] [([0],[2])] [0] [1,2] rfl hn1))) ?_)
   by_cases hrose:kAt κ (arrOf st) lo < kAt κ (arrOf st) (lo+n - 1)
   ·simp only [hrose,decide_true,if_true]
    exact wpS_pure (h n st hB rfl (fun _ _=>rfl) hn1 hn2 hsn)
   ·simp only [hrose,decide_false,Bool.false_eq_true,if_false]
    have hall: ∀ k,lo≤k→k < lo+n→kAt κ (arrOf st) k=kAt κ (arrOf st) (lo+n - 1):=by
     intro k hk1 hk2
     have a1:=hsn lo k (by exact li [lo] [] [1] [1] rfl) hk1 hk2
     have a2:=hsn k (lo+n - 1) hk1 (by exact li [k,lo+n - 1,lo,n] [([1,0],[3,4]),([3,4],[2,0])] [1] [2] rfl hk2 (l_g (lo+n) (1))) (by exact (l_d (li [lo,n,k] [([3,0],[1,2])] [0] [1,2] rfl hk2)))
     exact Int.le_antisymm a2 (Int.le_trans (Int.not_lt.mp hrose) a1)
    have hdn:oK κ (arrOf st) lo (lo+n):=fun i j hi hij hj=>by rw [hall i hi (by exact li [i,lo,n,j] [([1],[4]),([4,0],[2,3])] [1,0] [2,3] rfl hij hj),hall j (by exact li [lo,j,i] [([1],[3]),([3],[2])] [1] [2] rfl hi hij) hj]; exact Int.le_refl _
    refine wpS_bind (wpS_reverse ?_)
    refine wpS_bind (wpS_lift (wpAny_rule ⟨rfl,?_⟩))
    refine wpS_bind (my (g:=fun n q=>(none,n,q)) (bad:=fun n q=>(some none,n,q)) hL hn (by exact li [n] [] [0] [1,0] rfl) (by exact (Nat.lt_of_le_of_ne (hn2) hnn)) (hB.setArr (mirror_perm _ _ _ _)) (fun i x q=>rfl) ((hdn.more (by exact li [lo,n] [([0],[2])] [1,0] [1,2] rfl hn1) (Int.le_of_lt hlt)).same (bU hsz hall)) fun m q st' hB' hp ha hm1 hm2 hs' hq he=>?_)
    dsimp only
    have hsz':lo+m≤(arrOf st').size:=by rw [hB'.size]; exact li [lo,m,a₀.size,nrem] [([1,4],[3]),([2],[4])] [1,2] [3] rfl hn hm2
    have ha0:=(ba (xs:=arrOf st) (i:=lo) (j:=lo+n) hsz (Nat.le_refl lo)).trans ha
    by_cases hq0:q > 0
    ·rw [if_pos hq0]
     refine wpS_bind (wpS_reverse (wpS_bind (wpS_reverse ?_)))
     have hsz2:lo+m≤(mirror (arrOf st') (lo+m - (q+1)) (lo+m) ((lo+m - (lo+m - (q+1))) / 2)).size:=by rw [mirror_size]; exact hsz'
     refine wpS_bind (gr (g:=fun n=>(none,n)) (bad:=fun n=>(some none,n)) hL hn (by exact li [m,q] [([2,0],[1])] [0] [1] rfl hq) hm2 ((hB'.setArr (mirror_perm _ _ _ _)).setArr (mirror_perm _ _ _ _)) (fun i x=>rfl) ((hs'.same (bU hsz' he)).turn hsz2) fun m' hm1' hm2' hsm _=>
      wpS_pure (h m' _ ((hB'.setArr (mirror_perm _ _ _ _)).setArr (mirror_perm _ _ _ _)) hp ((ha0.trans (ba hsz' (by exact li [lo,lo+m - (q+1),q,m] [([3,0],[4]),([1,4],[2,3,0])] [1] [2] rfl hq (l_g (lo+m) (q+1))))).trans (ba hsz2 (Nat.le_refl lo))) (by exact li [m',q,m] [([2,0],[3]),([3],[1])] [0] [1] rfl hq hm1') hm2' hsm))
    ·rw [if_neg hq0]
     refine wpS_bind (wpS_reverse ?_)
     exact wpS_bind (gr (g:=fun n=>(none,n)) (bad:=fun n=>(some none,n)) hL hn (by exact li [m,q] [([2,0],[1])] [0] [1] rfl hq) hm2 (hB'.setArr (mirror_perm _ _ _ _)) (fun i x=>rfl) (hs'.turn hsz') fun m' hm1' hm2' hsm _=>
      wpS_pure (h m' _ (hB'.setArr (mirror_perm _ _ _ _)) hp (ha0.trans (ba hsz' (Nat.le_refl lo))) (by exact li [m',q,m] [([2,0],[3]),([3],[1])] [0] [1] rfl hq hm1') hm2' hsm))
  ·rw [if_neg hgt]
   obtain rfl:n=1:=by exact l_a ((l_t hgt)) (hn1)
   have hdn:oK κ (arrOf st) lo (lo+1):=fun i j hi hij hj=>by
    obtain rfl:i=j:=by exact l_a (hij) (li [j,i,lo] [([3],[2]),([1,0],[3,0])] [1] [2] rfl hi hj)
    exact Int.le_refl _
   refine wpS_bind (wpS_lift (wpAny_rule ⟨rfl,?_⟩))
   refine wpS_bind (my (g:=fun n q=>(none,n,q)) (bad:=fun n q=>(some none,n,q)) hL hn (by exact li [] [] [0] [0,0] rfl) (by exact (Nat.lt_of_le_of_ne (h1) hnn)) hB (fun i x q=>rfl) (hdn.more (by exact li [lo] [] [1,0] [1,0] rfl) (Int.le_of_lt hlt)) fun m q st' hB' hp ha hm1 hm2 hs' hq he=>?_)
   dsimp only
   have hsz':lo+m≤(arrOf st').size:=by rw [hB'.size]; exact li [lo,m,a₀.size,nrem] [([1,4],[3]),([2],[4])] [1,2] [3] rfl hn hm2
   by_cases hq0:q > 0
   ·rw [if_pos hq0]
    refine wpS_bind (wpS_reverse (wpS_bind (wpS_reverse ?_)))
    have hsz2:lo+m≤(mirror (arrOf st') (lo+m - (q+1)) (lo+m) ((lo+m - (lo+m - (q+1))) / 2)).size:=by rw [mirror_size]; exact hsz'
    refine wpS_bind (gr (g:=fun n=>(none,n)) (bad:=fun n=>(some none,n)) hL hn (by exact li [m] [([0,0],[1])] [0] [1] rfl hm1) hm2 ((hB'.setArr (mirror_perm _ _ _ _)).setArr (mirror_perm _ _ _ _)) (fun i x=>rfl) ((hs'.same (bU hsz' he)).turn hsz2) fun m' hm1' hm2' hsm _=>
     wpS_pure (h m' _ ((hB'.setArr (mirror_perm _ _ _ _)).setArr (mirror_perm _ _ _ _)) hp ((ha.trans (ba hsz' (by exact li [lo,lo+m - (q+1),q,m] [([3,0],[4]),([1,4],[2,3,0])] [1] [2] rfl hq (l_g (lo+m) (q+1))))).trans (ba hsz2 (Nat.le_refl lo))) (by exact li [m',m] [([0,0],[2]),([2],[1])] [0] [1] rfl hm1 hm1') hm2' hsm))
   ·rw [if_neg hq0]
    refine wpS_bind (wpS_reverse ?_)
    exact wpS_bind (gr (g:=fun n=>(none,n)) (bad:=fun n=>(some none,n)) hL hn (by exact li [m] [([0,0],[1])] [0] [1] rfl hm1) hm2 (hB'.setArr (mirror_perm _ _ _ _)) (fun i x=>rfl) (hs'.turn hsz') fun m' hm1' hm2' hsm _=>
     wpS_pure (h m' _ (hB'.setArr (mirror_perm _ _ _ _)) hp (ha.trans (ba hsz' (Nat.le_refl lo))) (by exact li [m',m] [([0,0],[2]),([2],[1])] [0] [1] rfl hm1 hm1') hm2' hsm))
end
end
noncomputable section
open PySem PyProof.Rows
noncomputable def qG:Bool→Keyed→Array Keyed→Nat→Nat→Nat→StateT SortSt Sem (Option Nat):=sortPriv% PySem.Builtin.gallop
section
variable {prog:Program} {w:World} {A:Around} {E:Value→Shared→Prop} {s:Shared} {kd:SortKind} {κ:Keyed→Int} {a₀:Array Keyed}
theorem kb {st:SortSt} {n maxofs:Nat} {β:Type} {g bad:Nat→Nat→β} {b:Nat→StateT SortSt Sem (Option Bool)} {neg:Bool→Bool} {v:Nat→Bool} {f:Nat→β→StateT SortSt Sem (ForInStep β)} {Q:β→SortSt→Prop} (hm:maxofs≤n) (hm1:1≤maxofs)
  (hb: ∀ o,o < maxofs→∀ R:Option Bool→SortSt→Prop,(∀ y,neg y= !(v o)→R (some y) st)→wpS (model prog w) A E s (b o) R st)
  (hf: ∀ i l o,f i (g l o)=if o ≥ maxofs then pure (ForInStep.done (g l o)) else do
   let __x ← b o
   match __x with
   | some y=>if neg y=true then pure (ForInStep.done (g l o)) else pure (ForInStep.yield (g o (2*o+1)))
   | _=>pure (ForInStep.done (bad l o)))
  (h: ∀ l o,l < o→l < maxofs→(l=0∨v l=true)→(maxofs≤o∨v o=false)→Q (g l o) st):wpS (model prog w) A E s (forIn [0:n] (g 0 1) f) Q st:=by
 refine wpS_forRange (I:=fun x c st'=>st'=st∧∃ l o,c=g l o∧l < o∧l < maxofs∧(l=0∨v l=true)∧x+1≤o) ?step ?fin ⟨rfl,0,1,rfl,by exact lin [] [] 1 (.a (.n 0) (.n 1)) (.n 1) rfl,by exact lin [_] [(1,.n 1,.v 0)] 1 (.a (.n 0) (.n 1)) (.v 0) rfl hm1,.inl rfl,by exact lin [] [] 1 (.a (.n 0) (.n 1)) (.n 1) rfl⟩
 case fin=>
  rintro c st' ⟨rfl,l,o,rfl,h1,h2,h3,h4⟩
  exact h l o h1 h2 h3 (.inl (by exact li [_,o,n,_] [([1],[3]),([4,0],[2]),([3],[4])] [1] [2] rfl hm h4 (Nat.le_max_right _ _)))
 case step=>
  rintro x c st' _ hx ⟨rfl,l,o,rfl,h1,h2,h3,h4⟩
  rw [hf]
  by_cases ho:o ≥ maxofs
  ·rw [if_pos ho]; exact wpS_pure (h l o h1 h2 h3 (.inl ho))
  ·rw [if_neg ho]
   refine wpS_bind (hb o (by exact (l_n ho)) _ fun y hy=>?_)
   cases hv:v o with
   | true=>
    have: ¬ neg y=true:=by rw [hy,hv]; decide
    simp only [this,if_false]
    exact wpS_pure ⟨rfl,o,2*o+1,rfl,by exact lin [o] [] 1 (.a (.v 0) (.n 1)) (.a (.m 2 (.v 0)) (.n 1)) rfl,by exact (l_n ho),.inr hv,by exact lin [x,o] [(1,.a (.v 0) (.n 1),.v 1)] 1 (.a (.a (.v 0) (.n 1)) (.n 1)) (.a (.m 2 (.v 1)) (.n 1)) rfl h4⟩
   | false=>
    have:neg y=true:=by rw [hy,hv]; rfl
    simp only [this,if_true]
    exact wpS_pure (h l o h1 h2 h3 (.inr hv))
theorem cJ {l o:Nat} (h: ¬ l ≥ o):l≤l+(o - l) / 2∧l+(o - l) / 2+1≤o:=
 ⟨Nat.le_add_right _ _,Nat.lt_of_lt_of_eq (Nat.add_lt_add_left (Nat.div_lt_self (Nat.sub_pos_of_lt (Nat.lt_of_not_le h)) (by decide)) l) (Nat.add_sub_cancel' (Nat.le_of_not_le h))⟩
theorem oY {st:SortSt} {n lo₀ hi₀:Nat} {β:Type} {g bad:Nat→Nat→β} {b:Nat→StateT SortSt Sem (Option Bool)} {v:Nat→Bool} {f:Nat→β→StateT SortSt Sem (ForInStep β)} {Q:β→SortSt→Prop} (hlh:lo₀≤hi₀) (hhn:hi₀≤n)
  (hmono: ∀ i j,i≤j→j < n→v j=true→v i=true) (hlo: ∀ i,i < lo₀→v i=true) (hhi: ∀ i,hi₀≤i→i < n→v i=false)
  (hb: ∀ o,o < n→∀ R:Option Bool→SortSt→Prop,R (some (v o)) st→wpS (model prog w) A E s (b o) R st)
  (hf: ∀ i l o,f i (g l o)=if l ≥ o then pure (ForInStep.done (g l o)) else do
   let __x ← b (l+(o - l) / 2)
   match __x with
   | some y=>if y=true then pure (ForInStep.yield (g (l+(o - l) / 2+1) o)) else pure (ForInStep.yield (g l (l+(o - l) / 2)))
   | _=>pure (ForInStep.done (bad l o)))
  (h: ∀ l k,k≤n→(∀ i,i < k→v i=true)→(∀ i,k≤i→i < n→v i=false)→Q (g l k) st):wpS (model prog w) A E s (forIn [0:n] (g lo₀ hi₀) f) Q st:=by
 refine wpS_forRange (I:=fun x c st'=>st'=st∧∃ l o,c=g l o∧l≤o∧o≤n∧o - l≤n - x∧(∀ i,i < l→v i=true)∧(∀ i,o≤i→i < n→v i=false)) ?step ?fin ⟨rfl,lo₀,hi₀,rfl,hlh,hhn,by exact lin [_,_,_,n,_] [(1,.v 2,.v 3),(1,.a (.v 0) (.v 4),.v 2),(1,.v 3,.a (.v 1) (.n 0))] 1 (.v 0) (.v 1) rfl hhn (l_d (hlh)) (l_g _ _),hlo,hhi⟩
 case fin=>
  rintro c st' ⟨rfl,l,o,rfl,h1,h2,h3,h4,h5⟩
  obtain rfl:l=o:=by exact l_a (h1) (li [o,l,_,_,n,_] [([3],[4]),([1],[3,2]),([5],[6]),([4,6],[5])] [1] [2] rfl h3 (l_g _ _) (Nat.le_max_right _ _) (l_d ((l_y (li [n] [] [] [1] rfl )))))
  exact h l l h2 h4 h5
 case step=>
  rintro x c st' _ hx ⟨rfl,l,o,rfl,h1,h2,h3,h4,h5⟩
  rw [hf]
  by_cases ho:l ≥ o
  ·obtain rfl:l=o:=by exact l_a (h1) (ho)
   rw [if_pos ho]; exact wpS_pure (h l l h2 h4 h5)
  ·rw [if_neg ho]
   refine wpS_bind (hb _ (Nat.lt_of_lt_of_le (cJ ho).2 h2) _ ?_)
   cases hv:v (l+(o - l) / 2) with
   | true=>
    simp only [if_true]
    exact wpS_pure ⟨rfl,_,o,rfl,(cJ ho).2,h2,tq (cJ ho).1 h3,fun i hi=>hmono i _ (Nat.le_of_lt_succ hi) (Nat.lt_of_lt_of_le (cJ ho).2 h2) hv,h5⟩
   | false=>
    simp only [Bool.false_eq_true,if_false]
    refine wpS_pure ⟨rfl,l,_,rfl,(cJ ho).1,Nat.le_trans (Nat.le_of_succ_le (cJ ho).2) h2,to (cJ ho).1 (cJ ho).2 h3,h4,fun i hi hn=>?_⟩
    cases hv':v i with
    | false=>rfl
    | true=>rw [hmono _ i hi hn hv'] at hv; cases hv
noncomputable def bq (κ:Keyed→Int) (left:Bool) (key:Keyed) (arr:Array Keyed) (base i:Nat):Bool:=if left then decide (kAt κ arr (base+i) < κ key) else decide (kAt κ arr (base+i)≤κ key)
theorem cp {st:SortSt} {left:Bool} {key:Keyed} {arr:Array Keyed} {base n hint:Nat} {Q:Option Nat→SortSt→Prop} (hL:oI prog w A E s kd κ a₀) (hk:kindOf st=kd) (hkey:key∈a₀.toList)
  (harr: ∀ i,i < n→∃ p,arr[base+i]?= some p∧p∈a₀.toList) (hs:Seg κ arr base (base+n)) (hh:hint < n)
  (h: ∀ k,k≤n→(∀ i,i < k→bq κ left key arr base i=true)→(∀ i,k≤i→i < n→bq κ left key arr base i=false)→Q (some k) st):
  wpS (model prog w) A E s (qG left key arr base n hint) Q st:=by
 have hmono: ∀ i j,i≤j→j < n→bq κ left key arr base j=true→bq κ left key arr base i=true:=fun i j hij hj hv=>by
  have:=hs (base+i) (base+j) (by exact li [_,i] [] [1] [1,2] rfl) (by exact li [_,i,j] [([2],[3])] [1,2] [1,3] rfl hij) (by exact li [_,j,n] [([2,0],[3])] [1,2,0] [1,3] rfl hj)
  unfold bq at hv ⊢
  cases left
  ·simp only [Bool.false_eq_true,if_false,decide_eq_true_eq] at hv ⊢; exact (Int.le_trans this hv)
  ·simp only [if_true,decide_eq_true_eq] at hv ⊢; exact (Int.lt_of_le_of_lt this hv)
 have hb: ∀ o,o < n→∀ R:Option Bool→SortSt→Prop,R (some (bq κ left key arr base o)) st→wpS (model prog w) A E s (do
   let x ← elem' arr (base+o)
   if left=true then lt' x key else do
    let y ← lt' key x
    pure (Option.map (fun x=>!x) y)) R st:=fun o ho R hR=>by
  obtain ⟨p,e,hp⟩:=harr o ho
  refine wpS_bind (fV e ?_)
  have hkp:kAt κ arr (base+o)=κ p:=by rw [kAt,e]; rfl
  unfold bq at hR
  rw [hkp] at hR
  cases left
  ·simp only [Bool.false_eq_true,if_false] at hR ⊢
   refine wpS_bind (hL key p hkey hp st _ hk (wpS_pure ?_))
   have:(!decide (κ key < κ p))=decide (κ p≤κ key):=by rw [Bool.eq_iff_iff]; simp
   rw [Option.map_some,this]; exact hR
  ·simp only [if_true] at hR ⊢
   exact hL p key hp hkey st R hk hR
 unfold qG
 refine wpS_bind (hb hint hh _ ?_)
 have fin: ∀ lo hi,lo≤hi→hi≤n→(∀ i,i < lo→bq κ left key arr base i=true)→(∀ i,hi≤i→i < n→bq κ left key arr base i=false)→∀ (f:Nat→Option (Option Nat)×Nat×Nat→StateT SortSt Sem (ForInStep (Option (Option Nat)×Nat×Nat))) (k:Option (Option Nat)×Nat×Nat→StateT SortSt Sem (Option Nat)),
   (∀ i l o,f i (none,l,o)=if l ≥ o then pure (ForInStep.done (none,l,o)) else do
    let __x ← (do
     let x ← elem' arr (base+(l+(o - l) / 2))
     if left=true then lt' x key else do
      let y ← lt' key x
      pure (Option.map (fun x=>!x) y))
    match __x with
    | some y=>if y=true then pure (ForInStep.yield (none,l+(o - l) / 2+1,o)) else pure (ForInStep.yield (none,l,l+(o - l) / 2))
    | _=>pure (ForInStep.done (some none,l,o)))→(∀ l o,k (none,l,o)=pure (some o))→
   wpS (model prog w) A E s (forIn [0:n] (none,lo,hi) f >>= k) Q st:=fun lo hi h1 h2 h3 h4 f k hf hk'=>
  wpS_bind (oY (g:=fun l o=>(none,l,o)) (bad:=fun l o=>(some none,l,o)) (v:=bq κ left key arr base) h1 h2 hmono h3 h4 hb hf fun l o h5 h6 h7=>by rw [hk']; exact wpS_pure (h o h5 h6 h7))
 cases hv:bq κ left key arr base hint with
 | true=>
  simp only [if_true]
  refine wpS_bind (kb (g:=fun l o=>(none,l,o)) (bad:=fun l o=>(some none,l,o)) (neg:=fun y=>!y) (v:=fun o=>bq κ left key arr base (hint+o)) (maxofs:=n - hint) (by exact li [_,n,_] [([1,3],[2])] [1] [2] rfl (l_d (li [_,n] [([1,0],[2])] [1] [2] rfl hh))) (by exact li [_,_,n] [([2,0],[3]),([3],[1,2])] [0] [1] rfl hh (l_g _ _)) (fun o ho R hR=>hb (hint+o) (by exact li [_,o,n,_] [([2,0],[4]),([4,1],[3])] [1,2,0] [3] rfl ho (l_d (li [_,n] [([1,0],[2])] [1] [2] rfl hh))) R (hR _ rfl)) (fun i l o=>rfl) fun l o h1 h2 h3 h4=>?_)
  refine fin (hint+l+1) (hint+min o (n - hint)) (by exact (Nat.le_total (o) (n - hint)).elim (fun q=>li [_,l,_,o] [([2,0],[4]),([4],[3])] [1,2,0] [1,3] rfl h1 (l_m (q))) (fun q=>li [_,l,_,_] [([2,0],[4]),([4],[3])] [1,2,0] [1,3] rfl h2 (l_r (q)))) (by exact li [_,_,n,_] [([4,1],[3]),([2],[4])] [1,2] [3] rfl (l_d (li [_,n] [([1,0],[2])] [1] [2] rfl hh)) (Nat.min_le_right _ _)) (fun i hi=>?_) (fun i hi hn=>?_) _ _ (fun _ _ _=>rfl) (fun _ _=>rfl)
  ·rcases h3 with rfl | h3
   ·exact hmono i hint (by exact lin [i,_] [(1,.a (.v 0) (.n 1),.a (.a (.v 1) (.n 0)) (.n 1))] 1 (.v 0) (.v 1) rfl hi) (by exact hh) hv
   ·exact hmono i (hint+l) (by exact li [i,_,l] [([1,0],[2,3,0])] [1] [2,3] rfl hi) (by exact li [_,l,n,_] [([2,0],[4]),([4,1],[3])] [1,2,0] [3] rfl h2 (l_d (li [_,n] [([1,0],[2])] [1] [2] rfl hh))) h3
  ·cases hq:bq κ left key arr base i with
   | false=>rfl
   | true=>
    rcases h4 with h4 | h4
    ·exact (l_z (lin [_,_,i,n,_] [(1,.a (.v 0) (.v 1),.v 2),(1,.a (.v 2) (.n 1),.v 3),(1,.v 3,.a (.v 4) (.v 0)),(1,.v 4,.v 1)] 0 (.n 1) (.n 0) rfl hi hn (l_g _ _) (l_r (h4)))).elim
    ·rw [hmono (hint+o) i (by exact (Nat.le_total (o) (n - hint)).elim (fun q=>li [_,o,i,_] [([1,4],[3]),([2],[4])] [1,2] [3] rfl hi (l_m (q))) (fun q=>lin [_,o,i,_,n,_] [(1,.a (.v 0) (.v 3),.v 2),(1,.a (.v 2) (.n 1),.v 4),(1,.v 4,.a (.v 5) (.v 0)),(1,.v 5,.v 3)] 0 (.a (.v 0) (.v 1)) (.v 2) rfl hi hn (l_g _ _) (l_r (q)))) hn hq] at h4; cases h4
 | false=>
  simp only [Bool.false_eq_true,if_false]
  refine wpS_bind (kb (g:=fun l o=>(none,l,o)) (bad:=fun l o=>(some none,l,o)) (neg:=fun y=>y) (v:=fun o=>!bq κ left key arr base (hint - o)) (maxofs:=hint+1) (by exact hh) (by exact li [_] [] [0] [1,0] rfl) (fun o ho R hR=>hb (hint - o) (by exact li [_,n,_,o] [([3,0],[2]),([1,4],[3])] [1,0] [2] rfl hh (l_d (li [o,_] [([1,0],[2,0])] [1] [2] rfl ho))) R (hR _ (by rw [Bool.not_not]))) (fun i l o=>rfl) fun l o h1 h2 h3 h4=>?_)
  refine fin (hint+1 - min o (hint+1)) (hint - l) (by exact (Nat.le_total (o) (hint+1)).elim (fun q=>li [_,_,l,o,_,_] [([3,0],[4]),([5],[2,3]),([4],[6]),([1,6],[5,0])] [1] [2] rfl h1 (l_g _ _) (l_m (q)) (l_d (li [_,_,o] [([3],[2,0]),([1],[3])] [1] [2,0] rfl q (Nat.min_le_left _ _)))) (fun q=>li [_,_,_,_] [([3,0],[4]),([1,4],[3,0])] [1] [2] rfl (l_r (q)) (l_d ((Nat.min_le_right _ _))))) (by exact li [_,n,_,l] [([3,0],[2]),([1,4],[3])] [1] [2] rfl hh (l_d (li [l,_] [([1,0],[2,0])] [1] [2] rfl h2))) (fun i hi=>?_) (fun i hi hn=>?_) _ _ (fun _ _ _=>rfl) (fun _ _=>rfl)
  ·rcases h4 with h4 | h4
   ·exact (l_z (lin [i,_,_,_] [(1,.a (.v 0) (.n 1),.v 1),(1,.a (.v 1) (.v 2),.a (.v 3) (.n 1)),(1,.a (.v 3) (.n 1),.v 2)] 0 (.n 1) (.n 0) rfl hi (l_p (li [_,i] [([2,0],[1])] [0] [1] rfl hi)) (l_r (h4)))).elim
   ·rw [Bool.not_eq_false'] at h4
    exact hmono i (hint - o) (by exact (Nat.le_total (o) (hint+1)).elim (fun q=>li [i,_,_,_,_,o] [([1,0],[3]),([3,4],[5,0]),([6],[4]),([5],[2,6])] [1] [2] rfl hi (l_p (li [_,i] [([2,0],[1])] [0] [1] rfl hi)) (l_m (q)) (l_g _ _)) (fun q=>lin [i,_,_,_,_] [(1,.a (.v 0) (.n 1),.v 2),(1,.a (.v 2) (.v 3),.a (.v 4) (.n 1)),(1,.a (.v 4) (.n 1),.v 3)] 0 (.v 0) (.v 1) rfl hi (l_p (li [_,i] [([2,0],[1])] [0] [1] rfl hi)) (l_r (q)))) (by exact li [_,n,_] [([3,0],[2]),([1],[3])] [1,0] [2] rfl hh (Nat.sub_le _ _)) h4
  ·cases hq:bq κ left key arr base i with
   | false=>rfl
   | true=>
    rcases h3 with rfl | h3
    ·rw [hmono hint i (by exact lin [_,i,_] [(1,.v 2,.v 1),(1,.v 0,.a (.v 2) (.n 0))] 1 (.v 0) (.v 1) rfl hi (l_g _ _)) hn hq] at hv; cases hv
    ·rw [hmono (hint - l) i hi hn hq] at h3; cases h3
end
end
noncomputable section
open PySem PyProof.Rows
noncomputable def Srt (κ:Keyed→Int) (l:List Keyed):Prop:=l.Pairwise fun x y=>κ x≤κ y
section
variable {κ:Keyed→Int}
theorem bf {xs:Array Keyed} {i:Nat} {p:Keyed} (e:xs[i]?= some p):kAt κ xs i=κ p:=by rw [kAt,e]; rfl
theorem gm {xs:Array Keyed} {i:Nat} {y:Keyed} (h:y∈xs.toList.drop i): ∃ j,i≤j∧j < xs.size∧xs[j]?= some y:=by
 rw [List.mem_iff_getElem?] at h
 obtain ⟨n,hn⟩:=h
 rw [List.getElem?_drop,Array.getElem?_toList] at hn
 exact ⟨i+n,by exact li [i,n] [] [1] [1,2] rfl,(Array.getElem?_eq_some_iff.mp hn).1,hn⟩
theorem Seg.le_drop {xs:Array Keyed} {lo i:Nat} (h:Seg κ xs lo xs.size) (hi:lo≤i) {y:Keyed} (hy:y∈xs.toList.drop i):kAt κ xs i≤κ y:=by
 obtain ⟨j,h1,h2,h3⟩:=gm hy
 rw [← bf (κ:=κ) h3]
 exact h i j hi h1 h2
theorem qV {xs:Array Keyed} {i:Nat} {p:Keyed} (e:xs[i]?= some p):xs.toList.drop i=p::xs.toList.drop (i+1):=by
 have hi:=(Array.getElem?_eq_some_iff.mp e).1
 rw [List.drop_eq_getElem_cons (by simpa using hi)]
 congr 1
 rw [Array.getElem_toList]
 exact (Array.getElem?_eq_some_iff.mp e).2
theorem nY {xs:Array Keyed} {i:Nat} {p:Keyed} (e:xs[i]?= some p):xs.toList.take (i+1)=xs.toList.take i++[p]:=by
 rw [List.take_add_one,Array.getElem?_toList,e]; rfl
structure G (κ:Keyed→Int) (a b out:Array Keyed) (ia ib:Nat):Prop where
 perm:out.toList.Perm (a.toList.take ia++b.toList.take ib)
 srt:Srt κ out.toList
 leA: ∀ x∈out.toList,∀ y∈a.toList.drop ia,κ x≤κ y
 leB: ∀ x∈out.toList,∀ y∈b.toList.drop ib,κ x≤κ y
theorem G.swap {a b out:Array Keyed} {ia ib:Nat} (g:G κ a b out ia ib):G κ b a out ib ia:=⟨g.perm.trans List.perm_append_comm,g.srt,g.leB,g.leA⟩
theorem G.pushA {a b out:Array Keyed} {ia ib:Nat} {p:Keyed} (g:G κ a b out ia ib) (e:a[ia]?= some p) (hs:Seg κ a 0 a.size) (hp: ∀ y∈b.toList.drop ib,κ p≤κ y):G κ a b (out.push p) (ia+1) ib:=by
 have hd:=qV e
 refine ⟨?_,?_,fun x hx y hy=>?_,fun x hx y hy=>?_⟩
 ·rw [Array.toList_push,nY e]
  refine (g.perm.append_right [p]).trans ?_
  rw [List.append_assoc,List.append_assoc]
  exact List.Perm.append_left _ List.perm_append_comm
 ·rw [Array.toList_push]
  refine List.pairwise_append.mpr ⟨g.srt,List.pairwise_singleton _ _,fun x hx y hy=>?_⟩
  rw [List.mem_singleton.mp hy]
  exact g.leA x hx p (by rw [hd]; exact List.mem_cons_self)
 ·rw [Array.toList_push,List.mem_append,List.mem_singleton] at hx
  rcases hx with hx | rfl
  ·exact g.leA x hx y (by rw [hd]; exact List.mem_cons_of_mem _ hy)
  ·rw [← bf (κ:=κ) e]; exact hs.le_drop (Nat.zero_le _) (by rw [hd]; exact List.mem_cons_of_mem _ hy)
 ·rw [Array.toList_push,List.mem_append,List.mem_singleton] at hx
  rcases hx with hx | rfl
  ·exact g.leB x hx y hy
  ·exact hp y hy
theorem kP {a:Array Keyed} {i k:Nat} {p:Keyed} (e:a[i+k]?= some p):a.extract i (i+(k+1))=(a.extract i (i+k)).push p:=by
 obtain ⟨hi,he⟩:=Array.getElem?_eq_some_iff.mp e
 rw [← he,Array.push_extract_getElem,Nat.min_eq_left (by exact li [i,k] [] [1] [1,2] rfl)]; rfl
theorem G.bulkA {a b out:Array Keyed} {ia ib:Nat} (g:G κ a b out ia ib) (hs:Seg κ a 0 a.size): ∀ k,ia+k≤a.size→(∀ i,i < k→∀ y∈b.toList.drop ib,kAt κ a (ia+i)≤κ y)→G κ a b (out++a.extract ia (ia+k)) (ia+k) ib
 | 0,_,_=>by
  have:a.extract ia (ia+0)= #[]:=by apply Array.toList_inj.mp; simp
  rw [this]; simpa using g
 | k+1,hk,h=>by
  have ih:=G.bulkA g hs k (by exact li [ia,k,_] [([1,2,0],[3])] [1,2] [3] rfl hk) fun i hi=>h i (by exact li [i,k] [([1,0],[2])] [1,0] [2,0] rfl hi)
  have e:a[ia+k]?= some a[ia+k]:=Array.getElem?_eq_getElem (by exact li [ia,k,_] [([1,2,0],[3])] [1,2,0] [3] rfl hk)
  rw [kP e,← Array.push_append]
  exact ih.pushA e hs fun y hy=>by rw [← bf (κ:=κ) e]; exact h k (by exact li [k] [] [1,0] [1,0] rfl) y hy
noncomputable def fU (κ:Keyed→Int) (a b r:Array Keyed):Prop:=r.toList.Perm (a.toList++b.toList)∧Srt κ r.toList
theorem Seg.srt_drop {xs:Array Keyed} (h:Seg κ xs 0 xs.size) (i:Nat):Srt κ (xs.toList.drop i):=by
 refine List.Pairwise.drop ?_
 rw [List.pairwise_iff_getElem]
 intro i j hi hj hij
 have:=h i j (Nat.zero_le _) (by exact li [i,j] [([1,0],[2])] [1] [2] rfl hij) (by simpa using hj)
 simpa [kAt,Array.getElem?_eq_getElem (show i < xs.size by simpa using hi),Array.getElem?_eq_getElem (show j < xs.size by simpa using hj)] using this
theorem fL (xs:Array Keyed) (i:Nat):(xs.extract i xs.size).toList=xs.toList.drop i:=by
 rw [Array.toList_extract,List.extract_eq_take_drop,List.take_of_length_le (by simp)]
theorem G.fin {a b out:Array Keyed} {ia ib:Nat} (g:G κ a b out ia ib) (ha:Seg κ a 0 a.size) (hb:Seg κ b 0 b.size) (h: ∀ x∈a.toList.drop ia,∀ y∈b.toList.drop ib,κ x≤κ y):fU κ a b (out++a.extract ia a.size++b.extract ib b.size):=by
 rw [fU,Array.toList_append,Array.toList_append,fL,fL]
 constructor
 ·have h1:=(g.perm.append_right (a.toList.drop ia)).append_right (b.toList.drop ib)
  refine h1.trans ?_
  have h2:((a.toList.take ia++b.toList.take ib)++a.toList.drop ia).Perm (a.toList++b.toList.take ib):=by
   have:(a.toList.take ia++b.toList.take ib++a.toList.drop ia).Perm (a.toList.take ia++(a.toList.drop ia++b.toList.take ib)):=by
    rw [List.append_assoc]; exact List.Perm.append_left _ List.perm_append_comm
   rwa [← List.append_assoc,List.take_append_drop] at this
  refine (h2.append_right _).trans ?_
  rw [List.append_assoc,List.take_append_drop]
 ·refine List.pairwise_append.mpr ⟨List.pairwise_append.mpr ⟨g.srt,ha.srt_drop ia,g.leA⟩,hb.srt_drop ib,fun x hx y hy=>?_⟩
  rcases List.mem_append.mp hx with hx | hx
  ·exact g.leB x hx y hy
  ·exact h x hx y hy
theorem fU.swap {a b r:Array Keyed} (h:fU κ a b r):fU κ b a r:=⟨h.1.trans List.perm_append_comm,h.2⟩
end
end
noncomputable section
open PySem PyProof.Rows
noncomputable def mW:Array Keyed→Array Keyed→StateT SortSt Sem (Array Keyed):=sortPriv% PySem.Builtin.mergeLo
structure aY (st st':SortSt):Prop where
 kind:kindOf st'=kindOf st
 arr:arrOf st'=arrOf st
 pend:pendingOf st'=pendingOf st
 failed:failedOf st'=failedOf st
theorem aY.rfl' (st:SortSt):aY st st:=⟨rfl,rfl,rfl,rfl⟩
theorem aY.trans {a b c:SortSt} (x:aY a b) (y:aY b c):aY a c:=⟨y.kind.trans x.kind,y.arr.trans x.arr,y.pend.trans x.pend,y.failed.trans x.failed⟩
section
variable {prog:Program} {w:World} {A:Around} {E:Value→Shared→Prop} {s:Shared} {kd:SortKind} {κ:Keyed→Int} {a₀:Array Keyed}
theorem tK {xs:Array Keyed} {i:Nat} (h:i < xs.size): ∃ p,xs[i]?= some p∧p∈xs.toList:=⟨xs[i],Array.getElem?_eq_getElem h,by simp⟩
theorem ay {α:Type} {c:Prop} [Decidable c] {x y:StateT SortSt Sem α} {Q:α→SortSt→Prop} {st:SortSt} (h1:c→wpS (model prog w) A E s x Q st) (h2: ¬ c→wpS (model prog w) A E s y Q st):wpS (model prog w) A E s (if c then x else y) Q st:=by
 by_cases h:c
 ·rw [if_pos h]; exact h1 h
 ·rw [if_neg h]; exact h2 h
theorem eD {f:SortSt→SortSt} {Q:PUnit→SortSt→Prop} {st:SortSt} (hf:aY st (f st)) (h: ∀ st',aY st st'→Q ⟨⟩ st'):wpS (model prog w) A E s (modify f:StateT SortSt Sem PUnit) Q st:=wpS_modify (h _ hf)
theorem bA {xs:Array Keyed} {i:Nat} {st:SortSt} {Q:Keyed→SortSt→Prop} (hi:i < xs.size) (h: ∀ p,xs[i]?= some p→p∈xs.toList→Q p st):wpS (model prog w) A E s (elem' xs i) Q st:=
 fV (Array.getElem?_eq_getElem hi) (h _ (Array.getElem?_eq_getElem hi) (by simp))
theorem dW {ρ X:Type} {n:Nat} {h:Array Keyed→Nat→Nat→ρ→X} {f:Nat→Option (Array Keyed)×X→StateT SortSt Sem (ForInStep (Option (Array Keyed)×X))} {st:SortSt} {Q:Option (Array Keyed)×X→SortSt→Prop}
  (I:Nat→Array Keyed→Nat→Nat→SortSt→Prop) (K:Array Keyed→Nat→Nat→SortSt→Prop) (D:Array Keyed→SortSt→Prop) {out:Array Keyed} {ia ib:Nat} {r:ρ} (h0:I 0 out ia ib st)
  (hstep: ∀ i out ia ib r st (R:ForInStep (Option (Array Keyed)×X)→SortSt→Prop),i < n→I i out ia ib st→(∀ v x st,D v st→R (.done (some v,x)) st)→
   (∀ out ia ib r st,K out ia ib st→R (.done (none,h out ia ib r)) st)→(∀ out ia ib r st,I (i+1) out ia ib st→R (.yield (none,h out ia ib r)) st)→wpS (model prog w) A E s (f i (none,h out ia ib r)) R st)
  (hend: ∀ out ia ib st,I n out ia ib st→K out ia ib st) (hd: ∀ v x st,D v st→Q (some v,x) st) (hk: ∀ out ia ib r st,K out ia ib st→Q (none,h out ia ib r) st):
  wpS (model prog w) A E s (forIn [0:n] (none,h out ia ib r) f) Q st:=by
 refine wpS_forRange (fun i c st=>∃ out ia ib r,c=(none,h out ia ib r)∧I i out ia ib st) ?_ ?_ ⟨out,ia,ib,r,rfl,h0⟩
 ·rintro i c st _ hi ⟨out,ia,ib,r,rfl,hI⟩
  exact hstep i out ia ib r st _ hi hI hd hk fun out ia ib r st q=>⟨out,ia,ib,r,rfl,q⟩
 ·rintro c st ⟨out,ia,ib,r,rfl,hI⟩
  exact hk out ia ib r st (hend _ _ _ _ (by rwa [Nat.zero_max] at hI))
theorem CS {a b out:Array Keyed} {ia ib k:Nat} {pb:Keyed} (sa:Seg κ a 0 a.size) (sb:Seg κ b 0 b.size) (g:G κ a b out ia ib) (eb:b[ib]?= some pb) (hk1:k≤a.size - ia) (hk2: ∀ i,i < k→bq κ false pb a ia i=true) (hk3: ∀ i,k≤i→i < a.size - ia→bq κ false pb a ia i=false):
  G κ a b (out++a.extract ia (ia+k)) (ia+k) ib∧∀ y∈a.toList.drop (ia+k),κ pb≤κ y:=by
 refine ⟨?_,fun y hy=>?_⟩
 ·by_cases hia:ia≤a.size
  ·refine g.bulkA sa k (by exact li [ia,k,_,_] [([2],[4]),([4,1],[3])] [1,2] [3] rfl hk1 (l_d (hia))) fun i hi y hy=>?_
   have q:=hk2 i hi
   simp only [bq,Bool.false_eq_true,if_false,decide_eq_true_eq] at q
   have:=sb.le_drop (Nat.zero_le _) hy
   rw [bf (κ:=κ) eb] at this
   exact (Int.le_trans q this)
  ·obtain rfl:k=0:=by exact l_a (li [k,_] [([1],[2]),([2],[])] [1] [] rfl hk1 (l_o (li [_,ia] [([1,0],[2])] [1] [2] rfl (l_n hia)))) (li [k] [] [] [1] rfl )
   have:a.extract ia (ia+0)= #[]:=by apply Array.toList_inj.mp; simp
   rw [this]; simpa using g
 ·obtain ⟨j,q1,q2,q3⟩:=gm hy
  have q:=hk3 (j - ia) (by exact li [k,_,ia,j] [([3,1],[4]),([4],[2,3])] [1] [2] rfl q1 (l_g _ _)) (by exact li [_,_,j,_,ia] [([3,0],[4]),([4],[2,5]),([1,5],[3])] [1,0] [2] rfl q2 (l_g _ _) (l_d (li [ia,j,k] [([1,3],[2])] [1] [2] rfl q1)))
  simp only [bq,Bool.false_eq_true,if_false,decide_eq_false_iff_not] at q
  rw [show ia+(j - ia)=j by exact l_a (li [ia,_,j] [([2,1],[3])] [1,2] [3] rfl (l_d (li [ia,j,k] [([1,3],[2])] [1] [2] rfl q1))) (li [j,ia,_] [([1],[3,2])] [1] [2,3] rfl (l_g _ _)),bf (κ:=κ) q3] at q
  exact (Int.le_of_lt (Int.not_le.mp q))
theorem CR {a b out:Array Keyed} {ia ib k:Nat} {pa:Keyed} (sa:Seg κ a 0 a.size) (sb:Seg κ b 0 b.size) (g:G κ a b out ia ib) (ea:a[ia]?= some pa) (hk1:k≤b.size - ib) (hk2: ∀ i,i < k→bq κ true pa b ib i=true) (hk3: ∀ i,k≤i→i < b.size - ib→bq κ true pa b ib i=false):
  G κ a b (out++b.extract ib (ib+k)) ia (ib+k)∧∀ y∈b.toList.drop (ib+k),κ pa≤κ y:=by
 refine ⟨?_,fun y hy=>?_⟩
 ·by_cases hib:ib≤b.size
  ·refine (g.swap.bulkA sb k (by exact li [ib,k,_,_] [([2],[4]),([4,1],[3])] [1,2] [3] rfl hk1 (l_d (hib))) fun i hi y hy=>?_).swap
   have q:=hk2 i hi
   simp only [bq,if_true,decide_eq_true_eq] at q
   have:=sa.le_drop (Nat.zero_le _) hy
   rw [bf (κ:=κ) ea] at this
   exact (Int.le_of_lt (Int.lt_of_lt_of_le q this))
  ·obtain rfl:k=0:=by exact l_a (li [k,_] [([1],[2]),([2],[])] [1] [] rfl hk1 (l_o (li [_,ib] [([1,0],[2])] [1] [2] rfl (l_n hib)))) (li [k] [] [] [1] rfl )
   have:b.extract ib (ib+0)= #[]:=by apply Array.toList_inj.mp; simp
   rw [this]; simpa using g
 ·obtain ⟨j,q1,q2,q3⟩:=gm hy
  have q:=hk3 (j - ib) (by exact li [k,_,ib,j] [([3,1],[4]),([4],[2,3])] [1] [2] rfl q1 (l_g _ _)) (by exact li [_,_,j,_,ib] [([3,0],[4]),([4],[2,5]),([1,5],[3])] [1,0] [2] rfl q2 (l_g _ _) (l_d (li [ib,j,k] [([1,3],[2])] [1] [2] rfl q1)))
  simp only [bq,if_true,decide_eq_false_iff_not] at q
  rw [show ib+(j - ib)=j by exact l_a (li [ib,_,j] [([2,1],[3])] [1,2] [3] rfl (l_d (li [ib,j,k] [([1,3],[2])] [1] [2] rfl q1))) (li [j,ib,_] [([1],[3,2])] [1] [2,3] rfl (l_g _ _)),bf (κ:=κ) q3] at q
  exact (Int.not_lt.mp q)
structure Lo (κ:Keyed→Int) (a b out:Array Keyed) (ia ib j:Nat):Prop where
 g:G κ a b out ia ib
 ha:ia+1 < a.size
 hb:ib < b.size
 hj:j≤ia+ib
theorem Lo.less {a b out:Array Keyed} {ia ib j j':Nat} (L:Lo κ a b out ia ib j') (h:j≤j'):Lo κ a b out ia ib j:=⟨L.g,L.ha,L.hb,Nat.le_trans h L.hj⟩
structure Mrg (kd:SortKind) (κ:Keyed→Int) (a₀ a b:Array Keyed):Prop where
 ma: ∀ p∈a.toList,p∈a₀.toList
 mb: ∀ p∈b.toList,p∈a₀.toList
 sa:Seg κ a 0 a.size
 sb:Seg κ b 0 b.size
 first:kAt κ b 0≤kAt κ a 0
 last: ∀ y∈b.toList,κ y≤kAt κ a (a.size - 1)
theorem Mrg.doneA {a b out:Array Keyed} {ia ib:Nat} (M:Mrg kd κ a₀ a b) (g:G κ a b out ia ib) (e:ia=a.size):fU κ a b (out++a.extract ia a.size++b.extract ib b.size):=
 g.fin M.sa M.sb fun x hx=>by rw [e,List.drop_of_length_le (by simp)] at hx; cases hx
theorem Mrg.doneB {a b out:Array Keyed} {ia ib:Nat} (M:Mrg kd κ a₀ a b) (g:G κ a b out ia ib) (e:ib=b.size):fU κ a b (out++a.extract ia a.size++b.extract ib b.size):=
 g.fin M.sa M.sb fun x hx y hy=>by rw [e,List.drop_of_length_le (by simp)] at hy; cases hy
theorem Mrg.lastA {a b out:Array Keyed} {ia ib:Nat} (M:Mrg kd κ a₀ a b) (g:G κ a b out ia ib) (e:ia+1=a.size):fU κ a b (out++b.extract ib b.size++a.extract ia a.size):=
 (g.swap.fin M.sb M.sa fun x hx y hy=>by
  obtain ⟨j,h1,h2,h3⟩:=gm hy
  have:=M.last x (List.mem_of_mem_drop hx)
  rw [show a.size - 1=j by exact l_a (li [_,j,_,ia] [([3],[4,0]),([4],[2]),([1,0],[3])] [1] [2] rfl (l_s e) h1 (l_d (li [_,j] [([2,0],[1])] [0] [1] rfl h2))) (li [j,_,_] [([1,0],[3]),([3],[2,0])] [1] [2] rfl h2 (l_g _ _)),bf (κ:=κ) h3] at this
  exact this).swap
theorem G.start (κ:Keyed→Int) (a b:Array Keyed):G κ a b #[] 0 0:=⟨by simp,List.Pairwise.nil,by simp,by simp⟩
theorem Lo.over {a b out:Array Keyed} {ia ib j:Nat} {P:Prop} (L:Lo κ a b out ia ib j) (h:a.size+b.size≤j):P:=by have:=L.ha; have:=L.hb; have:=L.hj; exact (l_z (lin [_,_,j,ia,ib] [(1,.a (.v 0) (.v 1),.v 2),(1,.a (.a (.v 3) (.n 1)) (.n 1),.v 0),(1,.a (.v 4) (.n 1),.v 1),(1,.v 2,.a (.v 3) (.v 4))] 0 (.n 1) (.n 0) rfl h (by assumption) (by assumption) this)).elim
theorem Lo.moreA {a b out out':Array Keyed} {ia ib j:Nat} (L:Lo κ a b out ia ib j) (g:G κ a b out' (ia+1) ib) (e: ¬ ia+1+1=a.size):Lo κ a b out' (ia+1) ib (j+1):=⟨g,Nat.lt_of_le_of_ne L.ha e,L.hb,by have:=L.hj; exact li [j,ia,ib] [([1],[2,3])] [1,0] [2,0,3] rfl this⟩
theorem Lo.moreB {a b out out':Array Keyed} {ia ib j:Nat} (L:Lo κ a b out ia ib j) (g:G κ a b out' ia (ib+1)) (e: ¬ ib+1=b.size):Lo κ a b out' ia (ib+1) (j+1):=⟨g,L.ha,Nat.lt_of_le_of_ne L.hb e,Nat.succ_le_succ L.hj⟩
theorem Mrg.lessB {a b out:Array Keyed} {ia ib:Nat} {pa pb:Keyed} (M:Mrg kd κ a₀ a b) (g:G κ a b out ia ib) (eb:b[ib]?= some pb) (ea:a[ia]?= some pa) (h:κ pb≤κ pa):G κ a b (out.push pb) ia (ib+1):=
 (g.swap.pushA eb M.sb fun y hy=>by have:=M.sa.le_drop (Nat.zero_le _) hy; rw [bf (κ:=κ) ea] at this; exact Int.le_trans h this).swap
theorem Mrg.lessA {a b out:Array Keyed} {ia ib:Nat} {pa pb:Keyed} (M:Mrg kd κ a₀ a b) (g:G κ a b out ia ib) (ea:a[ia]?= some pa) (eb:b[ib]?= some pb) (h:κ pa≤κ pb):G κ a b (out.push pa) (ia+1) ib:=
 g.pushA ea M.sa fun y hy=>by have:=M.sb.le_drop (Nat.zero_le _) hy; rw [bf (κ:=κ) eb] at this; exact Int.le_trans h this
theorem fb {i k n:Nat} (h:k≤n - i) (hi:i≤n):i+k≤n:=by exact li [i,k,n,_] [([2],[4]),([4,1],[3])] [1,2] [3] rfl h (l_d (hi))
theorem Mrg.inA {a b:Array Keyed} (M:Mrg kd κ a₀ a b) (ia:Nat): ∀ i,i < a.size - ia→∃ p,a[ia+i]?= some p∧p∈a₀.toList:=fun i hi=>let ⟨p,e,m⟩:=tK (show ia+i < a.size by exact li [ia,i,_,_] [([2,0],[4]),([4,1],[3])] [1,2,0] [3] rfl hi (l_p (li [_,i] [([2,0],[1])] [0] [1] rfl hi))); ⟨p,e,M.ma p m⟩
theorem Mrg.inB {a b:Array Keyed} (M:Mrg kd κ a₀ a b) (ib:Nat): ∀ i,i < b.size - ib→∃ p,b[ib+i]?= some p∧p∈a₀.toList:=fun i hi=>let ⟨p,e,m⟩:=tK (show ib+i < b.size by exact li [ib,i,_,_] [([2,0],[4]),([4,1],[3])] [1,2,0] [3] rfl hi (l_p (li [_,i] [([2,0],[1])] [0] [1] rfl hi))); ⟨p,e,M.mb p m⟩
theorem Mrg.segA {a b:Array Keyed} (M:Mrg kd κ a₀ a b) (ia:Nat):Seg κ a ia (ia+(a.size - ia)):=fun i j h1 h2 h3=>M.sa i j (Nat.zero_le _) h2 (by exact li [j,_,ia,_] [([1,0],[3,4]),([4,3],[2])] [1,0] [2] rfl h3 (l_p (li [_,ia,i,j] [([2],[3]),([3],[4]),([4,0],[2,1])] [0] [1] rfl h1 h2 h3)))
theorem Mrg.segB {a b:Array Keyed} (M:Mrg kd κ a₀ a b) (ib:Nat):Seg κ b ib (ib+(b.size - ib)):=fun i j h1 h2 h3=>M.sb i j (Nat.zero_le _) h2 (by exact li [j,_,ib,_] [([1,0],[3,4]),([4,3],[2])] [1,0] [2] rfl h3 (l_p (li [_,ib,i,j] [([2],[3]),([3],[4]),([4,0],[2,1])] [0] [1] rfl h1 h2 h3)))
theorem ls {a b:Array Keyed} {st:SortSt} {Q:Array Keyed→SortSt→Prop} (hL:oI prog w A E s kd κ a₀) (hk:kindOf st=kd) (M:Mrg kd κ a₀ a b) (ha1:1≤a.size) (hb1:1≤b.size)
  (h: ∀ r st',aY st st'→fU κ a b r→Q r st'):wpS (model prog w) A E s (mW a b) Q st:=by
 unfold mW
 refine wpS_bind (wpS_lift (wpAny_rule ⟨rfl,wpS_bind (bA hb1 fun p0 e0 m0=>?_)⟩))
 have g1:G κ a b #[p0] 0 1:=((G.start κ b a).pushA e0 M.sb fun y hy=>by rw [← bf (κ:=κ) e0]; exact Int.le_trans M.first (M.sa.le_drop (Nat.le_refl 0) hy)).swap
 refine ay (fun e=>wpS_pure (h _ st (.rfl' st) (M.doneB g1 (beq_iff_eq.mp e)))) fun e1=>ay (fun e=>wpS_pure (h _ st (.rfl' st) (M.lastA g1 (beq_iff_eq.mp e)))) fun e2=>
  wpS_bind (wpS_get (wpS_bind (dW (ρ:=Nat) (h:=fun out ia ib r=>(out,ia,ib,r)) (fun j out ia ib st'=>aY st st'∧Lo κ a b out ia ib (j+1)) (fun _ _ _ _=>False)
   (fun v st'=>aY st st'∧fU κ a b v) ⟨.rfl' st,g1,Nat.lt_of_le_of_ne ha1 fun q=>e2 (beq_iff_eq.mpr q),Nat.lt_of_le_of_ne hb1 fun q=>e1 (beq_iff_eq.mpr q),Nat.le_refl 1⟩ ?step (fun out ia ib st' q=>q.2.over (Nat.le_succ _)) (fun v x st' q=>wpS_pure (h v st' q.1 q.2)) fun _ _ _ _ _ q=>q.elim)))
 clear h
 intro j out ia ib mg st₁ R _ J hD hN hY
 clear hN
 refine wpS_bind (dW (ρ:=Nat×Nat) (h:=fun out ia ib r=>(out,ia,ib,r)) (fun i out ia ib st'=>aY st st'∧Lo κ a b out ia ib (j+1+i)) (fun out ia ib st'=>aY st st'∧Lo κ a b out ia ib (j+1+1)) (fun v st'=>aY st st'∧fU κ a b v) J ?istep
  (fun out ia ib st' q=>q.2.over (Nat.le_add_left _ _)) (fun v x st' q=>wpS_pure (hD _ _ _ q)) ?ipost)
 case istep=>
  clear hD hY J R
  intro i out ia ib r st' R _ J hD hK hY
  refine wpS_bind (bA J.2.hb fun pb eb mb=>wpS_bind (bA (Nat.lt_of_succ_lt J.2.ha) fun pa ea ma=>wpS_bind (hL pb pa (M.mb pb mb) (M.ma pa ma) st' _ (J.1.kind.trans hk) ?_)))
  refine ay (fun hw=>wpS_bind (bA J.2.hb fun pb' eb' _=>?_)) fun hw=>wpS_bind (bA (Nat.lt_of_succ_lt J.2.ha) fun pa' ea' _=>?_)
  ·have g':=M.lessB J.2.g eb' ea (by rw [Option.some.inj (eb'.symm.trans eb)]; exact Int.le_of_lt (of_decide_eq_true hw))
   refine ay (fun e=>wpS_pure (hD _ _ _ ⟨J.1,M.doneB g' (beq_iff_eq.mp e)⟩)) fun e=>?_
   have L':=J.2.moreB g' fun q=>e (beq_iff_eq.mpr q)
   exact ay (fun _=>wpS_pure (hK _ _ _ _ _ ⟨J.1,L'.less (by exact li [j,i] [] [1,0,0] [1,0,2,0] rfl)⟩)) fun _=>wpS_pure (hY _ _ _ _ _ ⟨J.1,L'⟩)
  ·have g':=M.lessA J.2.g ea' eb (by rw [Option.some.inj (ea'.symm.trans ea)]; exact Int.not_lt.mp fun q=>hw (decide_eq_true q))
   refine ay (fun e=>wpS_pure (hD _ _ _ ⟨J.1,M.lastA g' (beq_iff_eq.mp e)⟩)) fun e=>?_
   have L':=J.2.moreA g' fun q=>e (beq_iff_eq.mpr q)
   exact ay (fun _=>wpS_pure (hK _ _ _ _ _ ⟨J.1,L'.less (by exact li [j,i] [] [1,0,0] [1,0,2,0] rfl)⟩)) fun _=>wpS_pure (hY _ _ _ _ _ ⟨J.1,L'⟩)
 clear J st₁
 intro out ia ib r st₁ J
 refine wpS_bind (wpS_lift (wpAny_rule ⟨rfl,wpS_bind (dW (ρ:=Nat×Nat×Nat) (h:=fun out ia ib r=>(out,ia,ib,r)) (fun i out ia ib st'=>aY st st'∧Lo κ a b out ia ib (j+1+1)) (fun out ia ib st'=>aY st st'∧Lo κ a b out ia ib (j+1+1)) (fun v st'=>aY st st'∧fU κ a b v) J ?gstep
  (fun out ia ib st' q=>q) (fun v x st' q=>wpS_pure (hD _ _ _ q)) fun out ia ib r st' q=>wpS_bind (eD ⟨rfl,rfl,rfl,rfl⟩ fun st₂ hA=>wpS_pure (hY _ _ _ _ _ ⟨q.1.trans hA,q.2⟩)))⟩))
 clear hD hY J R st₁
 intro i out ia ib r st' R _ J hD hK hY
 extract_lets s1 out1 s2 ia1 s3 ib1 s4 mg1 s5 ac1 bc1 ib2 jp mg2
 suffices T: ∀ mg,wpS (model prog w) A E s (jp () mg) R st' from ay (fun _=>T _) fun _=>T _
 intro mg
 refine wpS_bind (eD ⟨rfl,rfl,rfl,rfl⟩ fun st₂ hA=>wpS_bind (bA J.2.hb fun pb eb mb=>wpS_bind (cp (left:=false) (base:=ia) (n:=a.size - ia) (hint:=0) hL ((J.1.trans hA).kind.trans hk) (M.mb pb mb) (M.inA ia) (M.segA ia) (Nat.sub_pos_of_lt (Nat.lt_of_succ_lt J.2.ha)) fun k hk1 hk2 hk3=>?_)))
 have g2:=CS M.sa M.sb J.2.g eb hk1 hk2 hk3
 replace hA:=J.1.trans hA
 clear hk2 hk3 mb
 dsimp -zeta only
 extract_lets ac2 jp2 out2 ia2
 have T: ∀ out ia,G κ a b out ia ib→ia+1 < a.size→(∀ y∈a.toList.drop ia,κ pb≤κ y)→j+1+1≤ia+ib→wpS (model prog w) A E s (jp2 () out ia) R st₂:=by
  intro out ia g h1 hgt h3
  refine wpS_bind (bA J.2.hb fun pb' eb' _=>?_)
  have g3:=(g.swap.pushA eb' M.sb (Option.some.inj (eb.symm.trans eb')▸hgt)).swap
  refine ay (fun e=>wpS_pure (hD _ _ _ ⟨hA,M.doneB g3 (beq_iff_eq.mp e)⟩)) fun e=>?_
  have hib:ib+1 < b.size:=Nat.lt_of_le_of_ne J.2.hb fun q=>e (beq_iff_eq.mpr q)
  refine wpS_bind (bA (Nat.lt_of_succ_lt h1) fun pa ea ma=>wpS_bind (cp (left:=true) (base:=ib+1) (n:=b.size - (ib+1)) (hint:=0) hL (hA.kind.trans hk) (M.ma pa ma) (M.inB (ib+1)) (M.segB (ib+1)) (Nat.sub_pos_of_lt hib) fun k hk1 hk2 hk3=>?_))
  have g4:=CR M.sa M.sb g3 ea hk1 hk2 hk3
  clear hk2 hk3 ma
  dsimp -zeta only
  extract_lets bc3 ia3 jp3 out3 ib3
  have T: ∀ out ib,G κ a b out ia ib→ib < b.size→(∀ y∈b.toList.drop ib,κ pa≤κ y)→j+1+1≤ia+ib→wpS (model prog w) A E s (jp3 () out ib) R st₂:=by
   intro out ib g h2 hlt h3
   refine wpS_bind (bA (Nat.lt_of_succ_lt h1) fun pa' ea' _=>?_)
   have g5:=g.pushA ea' M.sa (Option.some.inj (ea.symm.trans ea')▸hlt)
   refine ay (fun e=>wpS_pure (hD _ _ _ ⟨hA,M.lastA g5 (beq_iff_eq.mp e)⟩)) fun e=>?_
   have L':Lo κ a b (out.push pa') (ia+1) ib (j+1+1):=⟨g5,Nat.lt_of_le_of_ne h1 fun q=>e (beq_iff_eq.mpr q),h2,Nat.le_trans h3 (by rw [Nat.add_right_comm]; exact Nat.le_succ _)⟩
   exact ay (fun _=>wpS_pure (hK _ _ _ _ _ ⟨hA,L'⟩)) fun _=>wpS_pure (hY _ _ _ _ _ ⟨hA,L'⟩)
  refine ay (fun _=>ay (fun e=>wpS_pure (hD _ _ _ ⟨hA,M.doneB g4.1 (beq_iff_eq.mp e)⟩)) fun e=>T _ _ g4.1 (Nat.lt_of_le_of_ne (fb hk1 (Nat.le_of_lt hib)) fun q=>e (beq_iff_eq.mpr q)) g4.2 (Nat.le_trans h3 (Nat.add_le_add_left (Nat.le_trans (Nat.le_succ _) (Nat.le_add_right _ _)) _))) fun hk0=>T _ _ g3 hib ?_ (Nat.le_succ_of_le h3)
  obtain rfl:k=0:=Nat.eq_zero_of_not_pos hk0
  exact g4.2
 refine ay (fun _=>ay (fun e=>wpS_pure (hD _ _ _ ⟨hA,M.lastA g2.1 (beq_iff_eq.mp e)⟩)) fun e=>ay (fun e=>wpS_pure (hD _ _ _ ⟨hA,M.doneA g2.1 (beq_iff_eq.mp e)⟩)) fun e'=>
  T _ _ g2.1 (Nat.lt_of_le_of_ne (Nat.lt_of_le_of_ne (fb hk1 (Nat.le_of_lt (Nat.lt_of_succ_lt J.2.ha))) fun q=>e' (beq_iff_eq.mpr q)) fun q=>e (beq_iff_eq.mpr q)) g2.2 (Nat.le_trans J.2.hj (Nat.add_le_add_right (Nat.le_add_right _ _) _))) fun hk0=>T _ _ J.2.g J.2.ha ?_ J.2.hj
 obtain rfl:k=0:=Nat.eq_zero_of_not_pos hk0
 exact g2.2
end
end
noncomputable section
open PySem PyProof.Rows
noncomputable def mX:Array Keyed→Array Keyed→StateT SortSt Sem (Array Keyed):=sortPriv% PySem.Builtin.mergeHi
section
variable {prog:Program} {w:World} {A:Around} {E:Value→Shared→Prop} {s:Shared} {kd:SortKind} {κ:Keyed→Int} {a₀:Array Keyed}
abbrev Hh (κ:Keyed→Int) (a b out:Array Keyed) (na nb:Nat):Prop:=G (fun x=>-κ x) a.reverse b.reverse out (a.size - na) (b.size - nb)
theorem xT {a:Array Keyed} {na:Nat} (h0:0 < na) (hn:na≤a.size):a.reverse[a.size - na]?= a[na - 1]?:=by
 rw [Array.getElem?_reverse (by exact lin [_,_,na] [(1,.a (.n 0) (.n 1),.v 2),(1,.a (.v 0) (.v 2),.v 1)] 1 (.a (.v 0) (.n 1)) (.v 1) rfl h0 (l_d (hn)))]; congr 1; exact l_a (li [_,_,na,_,_,_] [([3],[2,0]),([4,0],[5]),([5],[6,3]),([1,6],[4])] [1] [2] rfl (l_g _ _) (l_d (lin [_,na] [(1,.a (.n 0) (.n 1),.v 1),(1,.v 1,.v 0)] 1 (.n 1) (.v 0) rfl h0 hn)) (l_g _ _) (l_d (lin [_,_,na,_] [(1,.a (.n 0) (.n 1),.v 2),(1,.v 3,.a (.v 1) (.n 1)),(1,.a (.v 0) (.v 2),.v 3)] 1 (.v 0) (.v 1) rfl h0 (l_g _ _) (l_d (hn))))) (li [_,_,na,_,_,_] [([1,0],[3]),([4],[5,0]),([6,3],[4]),([5],[2,6])] [1] [2] rfl (l_d (lin [na] [(1,.a (.n 0) (.n 1),.v 0)] 1 (.n 1) (.v 0) rfl h0)) (l_g _ _) (l_d (hn)) (l_g _ _))
theorem vW {a:Array Keyed} {i:Nat} (h:i < a.size):kAt (fun x=>-κ x) a.reverse i= -kAt κ a (a.size - 1 - i):=by
 rw [kAt,kAt,Array.getElem?_reverse h,Array.getElem?_eq_getElem (show a.size - 1 - i < a.size by exact li [_,_,_,i] [([3,0],[2]),([1,4],[3])] [1,0] [2] rfl (l_d (li [_,i] [([2,0],[1])] [0] [1] rfl h)) (l_d (li [i,_,_] [([1,0],[3]),([3],[2,0])] [1] [2] rfl h (l_g _ _))))]; rfl
theorem jB {a:Array Keyed} (h:Seg κ a 0 a.size):Seg (fun x=>-κ x) a.reverse 0 a.reverse.size:=fun i j _ hij hj=>by
 rw [Array.size_reverse] at hj
 rw [vW (Nat.lt_of_le_of_lt hij hj),vW hj]
 exact Int.neg_le_neg (h _ _ (Nat.zero_le _) (by exact li [_,_,i,j,_] [([3],[4]),([1,4],[5]),([5],[2,3])] [1] [2] rfl hij (l_d (li [j,_,_] [([1,0],[3]),([3],[2,0])] [1] [2] rfl hj (l_g _ _))) (l_g _ _)) (by exact li [_,_,_,i] [([3,0],[2]),([1,4],[3])] [1,0] [2] rfl (l_d (li [_,j] [([2,0],[1])] [0] [1] rfl hj)) (l_d (li [i,_,j,_] [([1],[3]),([3,0],[4]),([4],[2,0])] [1] [2] rfl hij hj (l_g _ _)))))
theorem fX {b:Array Keyed} {nb:Nat} (hn:nb≤b.size):b.reverse.toList.drop (b.size - nb)=(b.toList.take nb).reverse:=by
 rw [Array.toList_reverse,List.drop_reverse]; congr 2; rw [Array.length_toList]; exact l_a (li [_,nb,_,_] [([3],[4,2]),([1,4],[3])] [1] [2] rfl (l_g _ _) (l_d (li [_,_,nb] [([1,3],[2])] [1] [2] rfl (l_d (hn))))) (li [nb,_,_,_] [([3,1],[4]),([4],[2,3])] [1] [2] rfl (l_d (hn)) (l_g _ _))
theorem pV {a:Array Keyed} {i n:Nat} (hi:i≤n) (hn:n≤a.size):a.reverse.extract (a.size - n) (a.size - i)=(a.extract i n).reverse:=by
 apply Array.toList_inj.mp
 rw [Array.toList_extract,Array.toList_reverse,Array.toList_reverse,Array.toList_extract,List.extract_eq_take_drop,List.extract_eq_take_drop,List.drop_reverse,List.take_reverse,List.length_take,Array.length_toList,List.drop_take,show min (a.size - (a.size - n)) a.size - (a.size - i - (a.size - n))=i by exact l_a (li [_,i,_,_,_,_,_,_] [([3],[4,2]),([4],[5,6]),([7,6],[3]),([8],[7]),([1,5],[8])] [1] [2] rfl (l_g _ _) (l_g _ _) (l_d (li [_,_,_,i,_] [([3,4],[2]),([5,1],[3])] [1] [2] rfl (l_d (li [i,_,n] [([1],[3]),([3],[2])] [1] [2] rfl hi hn)) (l_d (li [_,_,i,n,_] [([3],[4]),([5],[2,3]),([1,4],[5])] [1] [2] rfl hi (l_g _ _) (l_d (hn)))))) (Nat.min_le_left _ _) (l_d (li [_,_,_,i,_,_,_] [([3,4],[5]),([1,6],[3]),([5],[7,6]),([7],[2])] [1] [2] rfl (l_d (li [i,_,n] [([1],[3]),([3],[2])] [1] [2] rfl hi hn)) (l_d (li [_,_,i,n,_] [([3],[4]),([5],[2,3]),([1,4],[5])] [1] [2] rfl hi (l_g _ _) (l_d (hn)))) (l_g _ _) (l_m (li [_,_,_] [([1,3],[2])] [1] [2] rfl (l_d (li [_,_,_,i,_] [([3,4],[2]),([5,1],[3])] [1] [2] rfl (l_d (li [i,_,n] [([1],[3]),([3],[2])] [1] [2] rfl hi hn)) (l_d (li [_,_,i,n,_] [([3],[4]),([5],[2,3]),([1,4],[5])] [1] [2] rfl hi (l_g _ _) (l_d (hn))))))))))) (li [i,_,_,_,_,_,_,_] [([3,1],[4]),([5,6],[3]),([4],[7,6]),([7],[8]),([8],[2,5])] [1] [2] rfl (l_d (li [i,_,n] [([1],[3]),([3],[2])] [1] [2] rfl hi hn)) (l_d (li [_,_,i,n,_] [([3],[4]),([5],[2,3]),([1,4],[5])] [1] [2] rfl hi (l_g _ _) (l_d (hn)))) (l_g _ _) (l_m (li [_,_,_] [([1,3],[2])] [1] [2] rfl (l_d (li [_,_,_,i,_] [([3,4],[2]),([5,1],[3])] [1] [2] rfl (l_d (li [i,_,n] [([1],[3]),([3],[2])] [1] [2] rfl hi hn)) (l_d (li [_,_,i,n,_] [([3],[4]),([5],[2,3]),([1,4],[5])] [1] [2] rfl hi (l_g _ _) (l_d (hn)))))))) (l_g _ _)),show a.size - (a.size - n) - i=n - i by exact l_a (li [_,_,n,i,_,_,_] [([3],[2,4]),([5],[6,3]),([7,6],[5]),([1,4],[7])] [1] [2] rfl (l_g _ _) (l_g _ _) (l_d (li [_,_,n] [([1,3],[2])] [1] [2] rfl (l_d (hn)))) (l_d (li [i,_,n,_,_] [([1],[3]),([4,3],[5]),([5],[2,4])] [1] [2] rfl hi (l_d (hn)) (l_g _ _)))) (li [_,_,i,n,_,_,_] [([1,3],[4]),([5,4],[6]),([6],[7,5]),([7],[2,3])] [1] [2] rfl (l_d (hi)) (l_d (hn)) (l_g _ _) (l_g _ _))]
theorem Hh.pushA {a b out:Array Keyed} {na nb:Nat} {p:Keyed} (g:Hh κ a b out na nb) (h0:0 < na) (hn:na≤a.size) (hb:nb≤b.size) (e:a[na - 1]?= some p) (sa:Seg κ a 0 a.size) (hp: ∀ y∈b.toList.take nb,κ y≤κ p):Hh κ a b (out.push p) (na - 1) nb:=by
 have:=G.pushA g ((xT h0 hn).trans e) (jB sa) fun y hy=>Int.neg_le_neg (hp y (by rw [fX hb] at hy; exact List.mem_reverse.mp hy))
 rwa [show a.size - na+1=a.size - (na - 1) by exact l_a (li [_,_,na,_,_] [([1,3],[4]),([5,0],[3]),([4],[2,5])] [1,0] [2] rfl (l_d (hn)) (l_d (lin [na] [(1,.a (.n 0) (.n 1),.v 0)] 1 (.n 1) (.v 0) rfl h0)) (l_g _ _)) (li [_,_,_,na,_] [([3],[2,4]),([4],[5,0]),([1,5],[3])] [1] [2,0] rfl (l_g _ _) (l_g _ _) (l_d (li [_,_,na] [([3],[2]),([1,0],[3])] [1] [2] rfl hn (l_d (lin [na] [(1,.a (.n 0) (.n 1),.v 0)] 1 (.n 1) (.v 0) rfl h0)))))] at this
theorem Hh.bulkA {a b out:Array Keyed} {na nb i:Nat} (g:Hh κ a b out na nb) (hi:i≤na) (hn:na≤a.size) (hb:nb≤b.size) (sa:Seg κ a 0 a.size) (hp: ∀ k,i≤k→k < na→∀ y∈b.toList.take nb,κ y≤kAt κ a k):Hh κ a b (out++(a.extract i na).reverse) i nb:=by
 have:=G.bulkA g (jB sa) (na - i) (by rw [Array.size_reverse]; exact li [_,_,_,na,i] [([1,4],[3]),([2,5],[4])] [1,2] [3] rfl (l_d (hn)) (l_d (hi))) fun k hk y hy=>by
  rw [vW (by exact li [_,k,_,_,i,na] [([2,0],[4]),([4,5],[6]),([1,6],[3])] [1,2,0] [3] rfl hk (l_d (hi)) (l_d (hn)))]
  exact Int.neg_le_neg (hp _ (by exact lin [i,_,k,_,na,_,_,_] [(1,.a (.v 2) (.n 1),.v 3),(1,.a (.v 3) (.v 0),.v 4),(1,.v 5,.a (.v 6) (.n 1)),(1,.a (.v 7) (.v 4),.v 5),(1,.v 6,.a (.v 1) (.a (.v 7) (.v 2)))] 1 (.v 0) (.v 1) rfl hk (l_d (hi)) (l_g _ _) (l_d (hn)) (l_g _ _)) (by exact lin [_,na,_,_,_,k] [(1,.a (.v 2) (.n 1),.v 3),(1,.v 3,.a (.v 4) (.v 1)),(1,.a (.v 0) (.a (.v 4) (.v 5)),.v 2)] 1 (.a (.v 0) (.n 1)) (.v 1) rfl (l_d (li [_,na,k,_,i] [([2],[1]),([3,0],[4]),([4,5],[2])] [0] [1] rfl hn hk (l_d (hi)))) (l_g _ _) (l_d (li [_,k,_,_,i,na,_] [([2,0],[4]),([4,5],[6]),([7],[3,0]),([1,6],[7])] [1,2] [3] rfl hk (l_d (hi)) (l_g _ _) (l_d (hn))))) y (by rw [fX hb] at hy; exact List.mem_reverse.mp hy))
 rwa [show a.size - na+(na - i)=a.size - i by exact l_a (li [_,_,_,na,_,i] [([1,4],[5]),([2,6],[4]),([5],[3,6])] [1,2] [3] rfl (l_d (hn)) (l_d (hi)) (l_g _ _)) (li [_,_,_,_,na,i] [([4],[2,5]),([5],[3,6]),([1,6],[4])] [1] [2,3] rfl (l_g _ _) (l_g _ _) (l_d (li [i,_,na] [([1],[3]),([3],[2])] [1] [2] rfl hi hn))),pV hi hn] at this
theorem fU.rev {a b r:Array Keyed} (h:fU (fun x=>-κ x) a.reverse b.reverse r):fU κ a b r.reverse:=by
 refine ⟨?_,?_⟩
 ·have:=h.1
  rw [Array.toList_reverse,Array.toList_reverse] at this
  rw [Array.toList_reverse]
  exact (List.reverse_perm _).trans (this.trans ((List.reverse_perm _).append (List.reverse_perm _)))
 ·rw [Srt,Array.toList_reverse,List.pairwise_reverse]
  exact h.2.imp fun q=>Int.neg_le_neg_iff.mp q
theorem Hh.fin {a b out:Array Keyed} {na nb:Nat} (g:Hh κ a b out na nb) (ha:na≤a.size) (hb:nb≤b.size) (sa:Seg κ a 0 a.size) (sb:Seg κ b 0 b.size) (h: ∀ x∈a.toList.take na,∀ y∈b.toList.take nb,κ x≤κ y):fU κ a b (a.extract 0 na++b.extract 0 nb++out.reverse):=by
 have:=(G.fin g.swap (jB sb) (jB sa) fun x hx y hy=>Int.neg_le_neg (h y (by rw [fX ha] at hy; exact List.mem_reverse.mp hy) x (by rw [fX hb] at hx; exact List.mem_reverse.mp hx))).swap.rev
 rw [Array.size_reverse,Array.size_reverse] at this
 have e1:=pV (a:=a) (Nat.zero_le na) ha
 have e2:=pV (a:=b) (Nat.zero_le nb) hb
 rw [Nat.sub_zero] at e1 e2
 rwa [e1,e2,Array.reverse_append,Array.reverse_append,Array.reverse_reverse,Array.reverse_reverse,← Array.append_assoc] at this
theorem ju {a:Array Keyed} {n:Nat} {p:Keyed} (sa:Seg κ a 0 a.size) (h0:0 < n) (e:a[n - 1]?= some p) {y:Keyed} (hy:y∈a.toList.take n):κ y≤κ p:=by
 obtain ⟨i,hi,hq⟩:=List.mem_take_iff_getElem.mp hy
 have h1:=(Array.getElem?_eq_some_iff.mp e).1
 rw [← bf (κ:=κ) e,← hq]
 have h2:i < a.size:=by rw [Array.length_toList] at hi; exact li [i,_,_,_,n] [([1,0],[3]),([4,0],[2]),([5],[4,0]),([3],[5])] [1,0] [2] rfl (by assumption) h1 (l_g _ _) (Nat.min_le_left _ _)
 have:=sa i (n - 1) (Nat.zero_le _) (by exact li [i,_,_,n] [([1,0],[3]),([4],[2,0]),([3],[4])] [1] [2] rfl hi (l_g _ _) (Nat.min_le_left _ _)) h1
 rwa [bf (κ:=κ) (Array.getElem?_eq_getElem h2)] at this
theorem jv {a:Array Keyed} {n:Nat} {y:Keyed} (hy:y∈a.toList.take n): ∃ i,i < n∧kAt κ a i=κ y:=by
 obtain ⟨i,hi,hq⟩:=List.mem_take_iff_getElem.mp hy
 rw [Array.length_toList] at hi
 refine ⟨i,by exact li [i,n,_] [([1,0],[3]),([3],[2])] [1,0] [2] rfl (by assumption) (Nat.min_le_left _ _),?_⟩
 rw [bf (κ:=κ) (Array.getElem?_eq_getElem (show i < a.size by exact li [i,_,_] [([1,0],[3]),([3],[2])] [1,0] [2] rfl hi (Nat.min_le_right _ _))),← hq]; rfl
structure Hi (κ:Keyed→Int) (a b out:Array Keyed) (na nb j:Nat):Prop where
 g:Hh κ a b out na nb
 a0:0 < na
 b0:1 < nb
 an:na≤a.size
 bn:nb≤b.size
 hj:j+(na+nb)≤a.size+b.size
theorem Hi.less {a b out:Array Keyed} {na nb j j':Nat} (L:Hi κ a b out na nb j') (h:j≤j'):Hi κ a b out na nb j:=⟨L.g,L.a0,L.b0,L.an,L.bn,Nat.le_trans (Nat.add_le_add_right h _) L.hj⟩
theorem Hi.over {a b out:Array Keyed} {na nb j:Nat} {P:Prop} (L:Hi κ a b out na nb j) (h:a.size+b.size≤j):P:=by have:=L.a0; have:=L.hj; exact (l_z (lin [_,_,j,na,nb] [(1,.a (.v 0) (.v 1),.v 2),(1,.a (.n 0) (.n 1),.v 3),(1,.a (.v 2) (.a (.v 3) (.v 4)),.a (.v 0) (.v 1))] 0 (.n 1) (.n 0) rfl h (by assumption) this)).elim
theorem Hi.moreA {a b out out':Array Keyed} {na nb j:Nat} (L:Hi κ a b out na nb j) (g:Hh κ a b out' (na - 1) nb) (e: ¬ na - 1=0):Hi κ a b out' (na - 1) nb (j+1):=⟨g,Nat.pos_of_ne_zero e,L.b0,Nat.le_trans (Nat.sub_le _ _) L.an,L.bn,by have:=L.hj; have:=L.a0; exact lin [j,_,nb,_,_,na] [(1,.a (.v 0) (.a (.v 5) (.v 2)),.a (.v 3) (.v 4)),(1,.a (.v 1) (.n 1),.v 5)] 1 (.a (.a (.v 0) (.n 1)) (.a (.v 1) (.v 2))) (.a (.v 3) (.v 4)) rfl (by assumption) (l_d (lin [na] [(1,.a (.n 0) (.n 1),.v 0)] 1 (.n 1) (.v 0) rfl this))⟩
theorem Hi.moreB {a b out out':Array Keyed} {na nb j:Nat} (L:Hi κ a b out na nb j) (g:Hh κ a b out' na (nb - 1)) (e: ¬ nb - 1=1):Hi κ a b out' na (nb - 1) (j+1):=⟨g,L.a0,by have:=L.b0; exact (Nat.lt_of_le_of_ne (li [_,nb] [([0,0],[2]),([2],[1,0])] [0] [1] rfl this (l_g _ _)) (Ne.symm e)),L.an,Nat.le_trans (Nat.sub_le _ _) L.bn,by have:=L.hj; have:=L.b0; exact lin [j,na,_,_,_,nb] [(1,.a (.v 0) (.a (.v 1) (.v 5)),.a (.v 3) (.v 4)),(1,.a (.v 2) (.n 1),.v 5)] 1 (.a (.a (.v 0) (.n 1)) (.a (.v 1) (.v 2))) (.a (.v 3) (.v 4)) rfl (by assumption) (l_d (li [nb] [([0,0],[1])] [0] [1] rfl this))⟩
theorem Mrg.endA {a b out:Array Keyed} {na nb:Nat} (M:Mrg kd κ a₀ a b) (g:Hh κ a b out na nb) (hb:nb≤b.size) (e:na=0):fU κ a b (a.extract 0 na++b.extract 0 nb++out.reverse):=
 g.fin (by exact li [na,_] [([1],[])] [1] [2] rfl (l_e e)) hb M.sa M.sb fun x hx=>by rw [e,List.take_zero] at hx; cases hx
theorem Mrg.endB {a b out:Array Keyed} {na nb:Nat} (M:Mrg kd κ a₀ a b) (g:Hh κ a b out na nb) (ha:na≤a.size) (e:nb=0):fU κ a b (a.extract 0 na++b.extract 0 nb++out.reverse):=
 g.fin ha (by exact li [nb,_] [([1],[])] [1] [2] rfl (l_e e)) M.sa M.sb fun x hx y hy=>by rw [e,List.take_zero] at hy; cases hy
theorem Mrg.oneB {a b out:Array Keyed} {na nb:Nat} (M:Mrg kd κ a₀ a b) (g:Hh κ a b out na nb) (ha:na≤a.size) (hb:nb≤b.size) (e:nb=1):fU κ a b (b.extract 0 nb++a.extract 0 na++out.reverse):=
 (Hh.fin g.swap hb ha M.sb M.sa fun x hx y hy=>by
  obtain ⟨i,h1,h2⟩:=jv (κ:=κ) hx
  obtain ⟨j,h3,h4⟩:=jv (κ:=κ) hy
  obtain rfl:i=0:=by exact l_a (li [i,nb] [([2],[0]),([1,0],[2])] [1] [] rfl (l_e e) h1) (li [i] [] [] [1] rfl )
  rw [← h2,← h4]
  exact Int.le_trans M.first (M.sa 0 j (Nat.le_refl 0) (Nat.zero_le _) (by exact li [j,_,na] [([3],[2]),([1,0],[3])] [1,0] [2] rfl ha h3))).swap
theorem hiA {a b out:Array Keyed} {na nb k:Nat} {pb:Keyed} (M:Mrg kd κ a₀ a b) (g:Hh κ a b out na nb) (h0:0 < nb) (ha:na≤a.size) (hb:nb≤b.size) (eb:b[nb - 1]?= some pb) (hk1:k≤na) (hk2: ∀ i,i < k→bq κ false pb a 0 i=true) (hk3: ∀ i,k≤i→i < na→bq κ false pb a 0 i=false):
  Hh κ a b (out++(a.extract k na).reverse) k nb∧∀ y∈a.toList.take k,κ y≤κ pb:=by
 refine ⟨g.bulkA hk1 ha hb M.sa fun i h1 h2 y hy=>?_,fun y hy=>?_⟩
 ·have:=ju M.sb h0 eb hy
  have q:=hk3 i h1 h2
  simp only [bq,Bool.false_eq_true,if_false,decide_eq_false_iff_not,Nat.zero_add] at q
  exact (Int.le_of_lt (Int.lt_of_le_of_lt this (Int.not_le.mp q)))
 ·obtain ⟨i,h1,h2⟩:=jv (κ:=κ) hy
  have q:=hk2 i h1
  simp only [bq,Bool.false_eq_true,if_false,decide_eq_true_eq,Nat.zero_add] at q
  exact (Int.le_trans (Int.le_of_eq (Eq.symm h2)) q)
theorem hiB {a b out:Array Keyed} {na nb k:Nat} {pa:Keyed} (M:Mrg kd κ a₀ a b) (g:Hh κ a b out na nb) (h0:0 < na) (ha:na≤a.size) (hb:nb≤b.size) (ea:a[na - 1]?= some pa) (hk1:k≤nb) (hk2: ∀ i,i < k→bq κ true pa b 0 i=true) (hk3: ∀ i,k≤i→i < nb→bq κ true pa b 0 i=false):
  Hh κ a b (out++(b.extract k nb).reverse) na k∧∀ y∈b.toList.take k,κ y≤κ pa:=by
 refine ⟨(Hh.bulkA g.swap hk1 hb ha M.sb fun i h1 h2 y hy=>?_).swap,fun y hy=>?_⟩
 ·have:=ju M.sa h0 ea hy
  have q:=hk3 i h1 h2
  simp only [bq,if_true,decide_eq_false_iff_not,Nat.zero_add] at q
  exact (Int.le_trans this (Int.not_lt.mp q))
 ·obtain ⟨i,h1,h2⟩:=jv (κ:=κ) hy
  have q:=hk2 i h1
  simp only [bq,if_true,decide_eq_true_eq,Nat.zero_add] at q
  exact (Int.le_of_lt (Int.lt_of_le_of_lt (Int.le_of_eq (Eq.symm h2)) q))
theorem Hh.start (κ:Keyed→Int) (a b:Array Keyed):Hh κ a b #[] a.size b.size:=by rw [Hh,Nat.sub_self,Nat.sub_self]; exact G.start ..
theorem Mrg.hiLessA {a b out:Array Keyed} {na nb j:Nat} {pa pb:Keyed} (M:Mrg kd κ a₀ a b) (L:Hi κ a b out na nb j) (ea:a[na - 1]?= some pa) (eb:b[nb - 1]?= some pb) (h:κ pb≤κ pa):Hh κ a b (out.push pa) (na - 1) nb:=
 L.g.pushA L.a0 L.an L.bn ea M.sa fun _ hy=>Int.le_trans (ju M.sb (Nat.lt_trans Nat.zero_lt_one L.b0) eb hy) h
theorem Mrg.hiLessB {a b out:Array Keyed} {na nb j:Nat} {pa pb:Keyed} (M:Mrg kd κ a₀ a b) (L:Hi κ a b out na nb j) (eb:b[nb - 1]?= some pb) (ea:a[na - 1]?= some pa) (h:κ pa≤κ pb):Hh κ a b (out.push pb) na (nb - 1):=
 (Hh.pushA L.g.swap (Nat.lt_trans Nat.zero_lt_one L.b0) L.bn L.an eb M.sb fun _ hy=>Int.le_trans (ju M.sa L.a0 ea hy) h).swap
theorem cy {i n:Nat} (h0:0 < i) (h:i≤n):i - 1 < n:=by exact li [_,n,i] [([3],[2]),([1,0],[3])] [1,0] [2] rfl h (l_d (lin [i] [(1,.a (.n 0) (.n 1),.v 0)] 1 (.n 1) (.v 0) rfl h0))
theorem Mrg.inA' {a b:Array Keyed} {n:Nat} (M:Mrg kd κ a₀ a b) (h:n≤a.size): ∀ i,i < n→∃ p,a[0+i]?= some p∧p∈a₀.toList:=fun i hi=>M.inA 0 i (Nat.lt_of_lt_of_le hi h)
theorem Mrg.inB' {a b:Array Keyed} {n:Nat} (M:Mrg kd κ a₀ a b) (h:n≤b.size): ∀ i,i < n→∃ p,b[0+i]?= some p∧p∈a₀.toList:=fun i hi=>M.inB 0 i (Nat.lt_of_lt_of_le hi h)
theorem td {a:Array Keyed} {n:Nat} (sa:Seg κ a 0 a.size) (h:n≤a.size):Seg κ a 0 (0+n):=fun i j h1 h2 h3=>sa i j h1 h2 (Nat.lt_of_lt_of_le h3 (by rw [Nat.zero_add]; exact h))
theorem xg {n:Nat} (h:1 < n) (e: ¬ n - 1=1):1 < n - 1:=by exact (Nat.lt_of_le_of_ne (li [_,n] [([0,0],[2]),([2],[1,0])] [0] [1] rfl h (l_g _ _)) (Ne.symm e))
theorem tM {k n:Nat} (h:k≤n) (e: ¬ n - k > 0):k=n:=by exact l_a (h) (li [n,k,_] [([3],[]),([1],[3,2])] [1] [2] rfl (l_t e) (l_g _ _))
theorem un {x y z n:Nat} (h:x+(y+z)≤n):x+(y+(z - 1))≤n:=by exact lin [x,y,_,n,z] [(1,.a (.v 0) (.a (.v 1) (.v 4)),.v 3),(1,.v 2,.v 4)] 1 (.a (.v 0) (.a (.v 1) (.v 2))) (.v 3) rfl h (Nat.sub_le _ _)
theorem lu {a b:Array Keyed} {st:SortSt} {Q:Array Keyed→SortSt→Prop} (hL:oI prog w A E s kd κ a₀) (hk:kindOf st=kd) (M:Mrg kd κ a₀ a b) (ha1:1≤a.size) (hb1:1≤b.size)
  (h: ∀ r st',aY st st'→fU κ a b r→Q r st'):wpS (model prog w) A E s (mX a b) Q st:=by
 unfold mX
 refine wpS_bind (wpS_lift (wpAny_rule ⟨rfl,wpS_bind (bA (cy ha1 (Nat.le_refl _)) fun p0 e0 m0=>?_)⟩))
 have g1:Hh κ a b #[p0] (a.size - 1) b.size:=(Hh.start κ a b).pushA ha1 (Nat.le_refl _) (Nat.le_refl _) e0 M.sa fun y hy=>by have:=M.last y (List.mem_of_mem_take hy); rwa [bf (κ:=κ) e0] at this
 refine ay (fun e=>wpS_pure (h _ st (.rfl' st) (M.endA g1 (Nat.le_refl _) (beq_iff_eq.mp e)))) fun e1=>ay (fun e=>wpS_pure (h _ st (.rfl' st) (M.oneB g1 (Nat.sub_le _ _) (Nat.le_refl _) (beq_iff_eq.mp e)))) fun e2=>
  wpS_bind (wpS_get (wpS_bind (dW (ρ:=Nat) (h:=fun out na nb r=>(na,nb,out,r)) (fun j out na nb st'=>aY st st'∧Hi κ a b out na nb (j+1)) (fun _ _ _ _=>False)
   (fun v st'=>aY st st'∧fU κ a b v) ⟨.rfl' st,g1,Nat.pos_of_ne_zero fun q=>e1 (beq_iff_eq.mpr q),Nat.lt_of_le_of_ne hb1 fun q=>e2 (beq_iff_eq.mpr q.symm),Nat.sub_le _ _,Nat.le_refl _,by exact lin [_,_,_] [(1,.a (.v 0) (.n 1),.v 2)] 1 (.a (.a (.n 0) (.n 1)) (.a (.v 0) (.v 1))) (.a (.v 2) (.v 1)) rfl (l_d (ha1))⟩ ?step (fun out na nb st' q=>q.2.over (Nat.le_succ _)) (fun v x st' q=>wpS_pure (h v st' q.1 q.2)) fun _ _ _ _ _ q=>q.elim)))
 clear h
 intro j out na nb mg st₁ R _ J hD hN hY
 clear hN
 refine wpS_bind (dW (ρ:=Nat×Nat) (h:=fun out na nb r=>(na,nb,out,r)) (fun i out na nb st'=>aY st st'∧Hi κ a b out na nb (j+1+i)) (fun out na nb st'=>aY st st'∧Hi κ a b out na nb (j+1+1)) (fun v st'=>aY st st'∧fU κ a b v) J ?istep
  (fun out na nb st' q=>q.2.over (Nat.le_add_left _ _)) (fun v x st' q=>wpS_pure (hD _ _ _ q)) ?ipost)
 case istep=>
  clear hD hY J R
  intro i out na nb r st' R _ J hD hK hY
  have b0:0 < nb:=Nat.lt_trans Nat.zero_lt_one J.2.b0
  refine wpS_bind (bA (cy b0 J.2.bn) fun pb eb mb=>wpS_bind (bA (cy J.2.a0 J.2.an) fun pa ea ma=>wpS_bind (hL pb pa (M.mb pb mb) (M.ma pa ma) st' _ (J.1.kind.trans hk) ?_)))
  refine ay (fun hw=>wpS_bind (bA (cy J.2.a0 J.2.an) fun pa' ea' _=>?_)) fun hw=>wpS_bind (bA (cy b0 J.2.bn) fun pb' eb' _=>?_)
  ·have g':=M.hiLessA J.2 ea' eb (by rw [Option.some.inj (ea'.symm.trans ea)]; exact Int.le_of_lt (of_decide_eq_true hw))
   refine ay (fun e=>wpS_pure (hD _ _ _ ⟨J.1,M.endA g' J.2.bn (beq_iff_eq.mp e)⟩)) fun e=>?_
   have L':=J.2.moreA g' fun q=>e (beq_iff_eq.mpr q)
   exact ay (fun _=>wpS_pure (hK _ _ _ _ _ ⟨J.1,L'.less (by exact li [j,i] [] [1,0,0] [1,0,2,0] rfl)⟩)) fun _=>wpS_pure (hY _ _ _ _ _ ⟨J.1,L'⟩)
  ·have g':=M.hiLessB J.2 eb' ea (by rw [Option.some.inj (eb'.symm.trans eb)]; exact Int.not_lt.mp fun q=>hw (decide_eq_true q))
   refine ay (fun e=>wpS_pure (hD _ _ _ ⟨J.1,M.oneB g' J.2.an (Nat.le_trans (Nat.sub_le _ _) J.2.bn) (beq_iff_eq.mp e)⟩)) fun e=>?_
   have L':=J.2.moreB g' fun q=>e (beq_iff_eq.mpr q)
   exact ay (fun _=>wpS_pure (hK _ _ _ _ _ ⟨J.1,L'.less (by exact li [j,i] [] [1,0,0] [1,0,2,0] rfl)⟩)) fun _=>wpS_pure (hY _ _ _ _ _ ⟨J.1,L'⟩)
 clear J st₁
 intro out na nb r st₁ J
 refine wpS_bind (wpS_lift (wpAny_rule ⟨rfl,wpS_bind (dW (ρ:=Nat×Nat×Nat) (h:=fun out na nb r=>(na,nb,out,r)) (fun i out na nb st'=>aY st st'∧Hi κ a b out na nb (j+1+1)) (fun out na nb st'=>aY st st'∧Hi κ a b out na nb (j+1+1)) (fun v st'=>aY st st'∧fU κ a b v) J ?gstep
  (fun out na nb st' q=>q) (fun v x st' q=>wpS_pure (hD _ _ _ q)) fun out na nb r st' q=>wpS_bind (eD ⟨rfl,rfl,rfl,rfl⟩ fun st₂ hA=>wpS_pure (hY _ _ _ _ _ ⟨q.1.trans hA,q.2⟩)))⟩))
 clear hD hY J R st₁
 intro i out na nb r st' R _ J hD hK hY
 have b0:0 < nb:=Nat.lt_trans Nat.zero_lt_one J.2.b0
 extract_lets s1 na1 s2 nb1 s3 out1 s4 mg1 s5 ac1 bc1 nb2 jp mg2
 suffices T: ∀ mg,wpS (model prog w) A E s (jp () mg) R st' from ay (fun _=>T _) fun _=>T _
 intro mg
 refine wpS_bind (eD ⟨rfl,rfl,rfl,rfl⟩ fun st₂ hA=>wpS_bind (bA (cy b0 J.2.bn) fun pb eb mb=>wpS_bind (cp (left:=false) (base:=0) (n:=na) (hint:=na - 1) hL ((J.1.trans hA).kind.trans hk) (M.mb pb mb) (M.inA' J.2.an) (td M.sa J.2.an) (cy J.2.a0 (Nat.le_refl _)) fun k hk1 hk2 hk3=>?_)))
 have g2:=hiA M J.2.g b0 J.2.an J.2.bn eb hk1 hk2 hk3
 replace hA:=J.1.trans hA
 clear hk2 hk3 mb
 dsimp -zeta only
 extract_lets k2 ac2 jp2 out2 na2
 have T: ∀ na out,Hh κ a b out na nb→0 < na→na≤a.size→(∀ y∈a.toList.take na,κ y≤κ pb)→j+1+1+(na+nb)≤a.size+b.size→wpS (model prog w) A E s (jp2 () na out) R st₂:=by
  intro na out g h0 hn hle h3
  refine wpS_bind (bA (cy b0 J.2.bn) fun pb' eb' _=>?_)
  have g3:Hh κ a b (out.push pb') na (nb - 1):=(Hh.pushA g.swap b0 J.2.bn hn eb' M.sb (Option.some.inj (eb.symm.trans eb')▸hle)).swap
  have bn:=Nat.le_trans (Nat.sub_le nb 1) J.2.bn
  refine ay (fun e=>wpS_pure (hD _ _ _ ⟨hA,M.oneB g3 hn bn (beq_iff_eq.mp e)⟩)) fun e=>?_
  have hnb:=xg J.2.b0 fun q=>e (beq_iff_eq.mpr q)
  have h3:=un h3
  refine wpS_bind (bA (cy h0 hn) fun pa ea ma=>wpS_bind (cp (left:=true) (base:=0) (n:=nb - 1) (hint:=nb - 1 - 1) hL (hA.kind.trans hk) (M.ma pa ma) (M.inB' bn) (td M.sb bn) (cy (Nat.lt_trans Nat.zero_lt_one hnb) (Nat.le_refl _)) fun k hk1 hk2 hk3=>?_))
  have g4:=hiB M g3 h0 hn bn ea hk1 hk2 hk3
  clear hk2 hk3 ma
  dsimp -zeta only
  extract_lets k3 bc3 na3 jp3 out3 nb3
  have T: ∀ nb out,Hh κ a b out na nb→1 < nb→nb≤b.size→(∀ y∈b.toList.take nb,κ y≤κ pa)→j+1+1+(na+nb)≤a.size+b.size→wpS (model prog w) A E s (jp3 () nb out) R st₂:=by
   intro nb out g h2 hn2 hlt h3
   refine wpS_bind (bA (cy h0 hn) fun pa' ea' _=>?_)
   have g5:=g.pushA h0 hn hn2 ea' M.sa (Option.some.inj (ea.symm.trans ea')▸hlt)
   refine ay (fun e=>wpS_pure (hD _ _ _ ⟨hA,M.endA g5 hn2 (beq_iff_eq.mp e)⟩)) fun e=>?_
   have L':Hi κ a b (out.push pa') (na - 1) nb (j+1+1):=⟨g5,Nat.pos_of_ne_zero fun q=>e (beq_iff_eq.mpr q),h2,Nat.le_trans (Nat.sub_le _ _) hn,hn2,Nat.le_trans (Nat.add_le_add_left (Nat.add_le_add_right (Nat.sub_le _ _) _) _) h3⟩
   exact ay (fun _=>wpS_pure (hK _ _ _ _ _ ⟨hA,L'⟩)) fun _=>wpS_pure (hY _ _ _ _ _ ⟨hA,L'⟩)
  refine ay (fun _=>ay (fun e=>wpS_pure (hD _ _ _ ⟨hA,M.oneB g4.1 hn (Nat.le_trans hk1 bn) (beq_iff_eq.mp e)⟩)) fun e=>ay (fun e=>wpS_pure (hD _ _ _ ⟨hA,M.endB g4.1 hn (beq_iff_eq.mp e)⟩)) fun e'=>
   T _ _ g4.1 (Nat.lt_of_le_of_ne (Nat.pos_of_ne_zero fun q=>e' (beq_iff_eq.mpr q)) fun q=>e (beq_iff_eq.mpr q.symm)) (Nat.le_trans hk1 bn) g4.2 (Nat.le_trans (Nat.add_le_add_left (Nat.add_le_add_left hk1 _) _) h3)) fun hk0=>T _ _ g3 hnb bn ?_ h3
  have q: ∀ y∈b.toList.take (nb - 1),κ y≤κ pa:=by rw [← tM hk1 hk0]; exact g4.2
  exact q
 refine ay (fun _=>ay (fun e=>wpS_pure (hD _ _ _ ⟨hA,M.endA g2.1 J.2.bn (beq_iff_eq.mp e)⟩)) fun e=>
  T _ _ g2.1 (Nat.pos_of_ne_zero fun q=>e (beq_iff_eq.mpr q)) (Nat.le_trans hk1 J.2.an) g2.2 (Nat.le_trans (Nat.add_le_add_left (Nat.add_le_add_right hk1 _) _) J.2.hj)) fun hk0=>T _ _ J.2.g J.2.a0 J.2.an ?_ J.2.hj
 have q: ∀ y∈a.toList.take na,κ y≤κ pb:=by rw [← tM hk1 hk0]; exact g2.2
 exact q
end
end
noncomputable section
open PySem PyProof.Rows
section
variable {prog:Program} {w:World} {A:Around} {E:Value→Shared→Prop} {s:Shared} {kd:SortKind} {κ:Keyed→Int} {a₀:Array Keyed}
theorem pX (b:Nat): ∀ (l:List Keyed) (n:Nat) (xs:Array Keyed) (k:Nat),b+n+l.length≤xs.size→
  ((l.zipIdx n).foldl (fun a x=>a.setIfInBounds (b+x.2) x.1) xs)[k]?= if b+n≤k∧k < b+n+l.length then l[k - (b+n)]? else xs[k]?
 | [],n,xs,k,_=>(if_neg fun h=>Nat.lt_irrefl _ (Nat.lt_of_lt_of_le h.2 h.1)).symm
 | p::l,n,xs,k,h=>by
  rw [List.length_cons] at h
  rw [List.zipIdx_cons,List.foldl_cons,pX b l (n+1) _ k (by rw [Array.size_setIfInBounds]; exact li [b,n,_,_] [([1,2,3,0],[4])] [1,2,0,3] [4] rfl h),List.length_cons]
  by_cases h1:b+(n+1)≤k∧k < b+(n+1)+l.length
  ·rw [if_pos h1,if_pos (by exact ⟨li [b,n,k] [([1,2,0],[3])] [1,2] [3] rfl h1.1,li [k,b,n,_] [([1,0],[2,3,0,4])] [1,0] [2,3,4,0] rfl h1.2⟩),show k - (b+n)=k - (b+(n+1))+1 by exact l_a (lin [_,_,b,n,k] [(1,.a (.v 0) (.a (.v 2) (.v 3)),.v 4),(1,.v 4,.a (.v 1) (.a (.v 2) (.a (.v 3) (.n 1))))] 1 (.v 0) (.a (.v 1) (.n 1)) rfl (l_d (li [b,n,k] [([1,2,0],[3])] [1,2] [3] rfl h1.1)) (l_g _ _)) (lin [_,_,k,b,n] [(1,.v 2,.a (.v 1) (.a (.v 3) (.v 4))),(1,.a (.v 0) (.a (.v 3) (.a (.v 4) (.n 1))),.v 2)] 1 (.a (.v 0) (.n 1)) (.v 1) rfl (l_g _ _) (l_d (h1.1))),List.getElem?_cons_succ]
  ·rw [if_neg h1,Array.getElem?_setIfInBounds]
   by_cases h2:b+n=k
   ·rw [if_pos h2,if_pos (by exact li [b,n,_,_] [([1,2,4,0],[3])] [1,2,0] [3] rfl h),if_pos (by exact ⟨(l_e h2),li [k,b,n,_] [([1],[2,3])] [1,0] [2,3,4,0] rfl (l_s h2)⟩),show k - (b+n)=0 by exact l_a (lin [_,k,b,n] [(1,.v 1,.a (.v 2) (.v 3)),(1,.a (.v 0) (.a (.v 2) (.v 3)),.v 1)] 1 (.v 0) (.n 0) rfl (l_s h2) (l_d ((l_e h2)))) (li [_] [] [] [1] rfl ),List.getElem?_cons_zero]
   ·rw [if_neg h2,if_neg (by lia)]
structure BE (κ:Keyed→Int) (xs ys r:Array Keyed) (p q:Nat):Prop where
 get: ∀ k:Nat,ys[k]?= if p≤k∧k < q then r[k - p]? else xs[k]?
 size:r.size=q - p
 srt:Seg κ r 0 r.size
 from': ∀ j,j < r.size→∃ i,p≤i∧i < q∧kAt κ r j=kAt κ xs i
theorem BE.seg {xs ys r:Array Keyed} {lo p q hi:Nat} (L:BE κ xs ys r p q) (hP:Seg κ xs lo p) (hS:Seg κ xs q hi)
  (h1: ∀ i j,lo≤i→i < p→p≤j→j < hi→kAt κ xs i≤kAt κ xs j) (h2: ∀ i j,p≤i→i < q→q≤j→j < hi→kAt κ xs i≤kAt κ xs j) (hpq:p≤q) (hqh:q≤hi):Seg κ ys lo hi:=by
 have out: ∀ k,¬ (p≤k∧k < q)→kAt κ ys k=kAt κ xs k:=fun k hk=>aU (by rw [L.get,if_neg hk])
 have inn: ∀ k,p≤k→k < q→kAt κ ys k=kAt κ r (k - p):=fun k a b=>aU (by rw [L.get,if_pos ⟨a,b⟩])
 intro i j hi' hij hj
 by_cases a:i < p
 ·rw [out i fun h=>Nat.lt_irrefl _ (Nat.lt_of_lt_of_le a h.1)]
  by_cases b:j < p
  ·rw [out j fun h=>Nat.lt_irrefl _ (Nat.lt_of_lt_of_le b h.1)]; exact hP i j hi' hij b
  ·by_cases c:j < q
   ·rw [inn j (Nat.not_lt.mp b) c]
    obtain ⟨m,q1,q2,q3⟩:=L.from' (j - p) (by rw [L.size]; exact li [_,_,j,q,p] [([3,0],[4]),([1,5],[3]),([4],[2,5])] [1,0] [2] rfl c (l_d ((l_t b))) (l_g _ _))
    rw [q3]; exact h1 i m hi' a q1 (Nat.lt_of_lt_of_le q2 hqh)
   ·rw [out j fun h=>c h.2]; exact h1 i j hi' a (Nat.not_lt.mp b) hj
 ·have a:=Nat.not_lt.mp a
  by_cases b:i < q
  ·rw [inn i a b]
   by_cases c:j < q
   ·rw [inn j (Nat.le_trans a hij) c]
    exact L.srt _ _ (Nat.zero_le _) (Nat.sub_le_sub_right hij p) (by rw [L.size]; exact li [_,_,j,q,p] [([3,0],[4]),([1,5],[3]),([4],[2,5])] [1,0] [2] rfl c (l_d (li [p,j,i] [([3],[2]),([1],[3])] [1] [2] rfl hij (l_t (by assumption)))) (l_g _ _))
   ·obtain ⟨m,q1,q2,q3⟩:=L.from' (i - p) (by rw [L.size]; exact li [_,_,i,q,p] [([3,0],[4]),([1,5],[3]),([4],[2,5])] [1,0] [2] rfl b (l_d ((l_t (by assumption)))) (l_g _ _))
    rw [out j fun h=>c h.2,q3]; exact h2 m j q1 q2 (Nat.not_lt.mp c) hj
  ·have b:=Nat.not_lt.mp b
   rw [out i fun h=>Nat.not_lt.mpr b h.2,out j fun h=>Nat.not_lt.mpr (Nat.le_trans b hij) h.2]; exact hS i j b hij hj
theorem qt {xs ys r:Array Keyed} {p q:Nat} (h: ∀ k:Nat,ys[k]?= if p≤k∧k < q then r[k - p]? else xs[k]?) (hs:r.size=q - p) (hpq:p≤q) (hq:q≤xs.size):ys.toList=xs.toList.take p++(r.toList++xs.toList.drop q):=by
 apply List.ext_getElem?
 intro k
 have hl:(xs.toList.take p).length=p:=by rw [List.length_take,Array.length_toList]; exact Nat.min_eq_left (li [p,_,q] [([1],[3]),([3],[2])] [1] [2] rfl hpq hq)
 rw [Array.getElem?_toList,h,List.getElem?_append,hl,List.getElem?_append,Array.length_toList,hs]
 by_cases h1:k < p
 ·rw [if_neg (fun q=>Nat.lt_irrefl _ (Nat.lt_of_lt_of_le h1 q.1)),if_pos h1,List.getElem?_take_of_lt h1,Array.getElem?_toList]
 ·rw [if_neg h1]
  by_cases h2:k < q
  ·rw [if_pos ⟨Nat.not_lt.mp h1,h2⟩,if_pos (by exact li [_,_,k,q,p] [([3,0],[4]),([4],[2,5]),([1,5],[3])] [1,0] [2] rfl h2 (l_g _ _) (l_d ((l_t h1)))),Array.getElem?_toList]
  ·rw [if_neg (fun q=>h2 q.2),if_neg (by exact Nat.not_lt_of_ge (li [_,_,q,k,p] [([3],[4]),([1,5],[3]),([4],[2,5])] [1] [2] rfl (l_t h2) (l_d (hpq)) (l_g _ _))),List.getElem?_drop,Array.getElem?_toList]; congr 1; exact l_a (li [k,q,_,_,p,_] [([4,5],[2]),([1],[6,5]),([6],[3,4])] [1] [2,3] rfl (l_d (hpq)) (l_g _ _) (l_g _ _)) (li [q,_,k,_,p,_] [([1],[4,5]),([6,5],[3]),([2,4],[6])] [1,2] [3] rfl (l_g _ _) (l_d ((l_t h1))) (l_d (li [_,_,q,k,p] [([3],[4]),([1,5],[3]),([4],[2,5])] [1] [2] rfl (l_t h2) (l_d (hpq)) (l_g _ _))))
theorem DL (xs:List Keyed) {p q:Nat} (h:p≤q):xs=xs.take p++((xs.drop p).take (q - p)++xs.drop q):=by
 have:=List.take_append_drop (q - p) (xs.drop p)
 rw [List.drop_drop,show p+(q - p)=q by exact l_a (li [p,_,q] [([2,1],[3])] [1,2] [3] rfl (l_d (h))) (li [q,p,_] [([1],[3,2])] [1] [2,3] rfl (l_g _ _))] at this
 rw [this,List.take_append_drop]
theorem kQ {xs:Array Keyed} {p q j:Nat} (hq:q≤xs.size) (h:j < q - p):(xs.extract p q)[j]?= xs[p+j]?:=by
 rw [Array.getElem?_extract,if_pos (by exact li [j,_,_,p,q,_] [([1,0],[3]),([3,4],[5]),([5],[6]),([6],[2,4])] [1,0] [2] rfl h (l_p (li [_,j] [([2,0],[1])] [0] [1] rfl h)) (l_m (hq)) (l_g _ _))]
theorem jL {xs:Array Keyed} {p q:Nat} (hq:q≤xs.size):(xs.extract p q).size=q - p:=by rw [Array.size_extract]; lia
theorem tB {xs:Array Keyed} {p q:Nat} (hq:q≤xs.size) (h:Seg κ xs p q):Seg κ (xs.extract p q) 0 (xs.extract p q).size:=fun i j _ hij hj=>by
 rw [jL hq] at hj
 rw [aU (kQ hq (Nat.lt_of_le_of_lt hij hj)),aU (kQ hq hj)]
 exact h _ _ (Nat.le_add_right _ _) (Nat.add_le_add_left hij _) (by exact li [p,j,q,_] [([2,0],[4]),([4,1],[3])] [1,2,0] [3] rfl hj (l_p (li [_,j] [([2,0],[1])] [0] [1] rfl hj)))
theorem nB {xs:Array Keyed} {p q:Nat} {y:Keyed} (hy:y∈(xs.extract p q).toList):y∈xs.toList∧∃ i,p≤i∧i < q∧kAt κ xs i=κ y:=by
 rw [Array.toList_extract,List.extract_eq_take_drop] at hy
 obtain ⟨i,hi,e⟩:=List.mem_take_iff_getElem.mp hy
 rw [List.length_drop,Array.length_toList] at hi
 rw [List.getElem_drop] at e
 refine ⟨by rw [← e]; exact List.getElem_mem _,p+i,Nat.le_add_right _ _,by exact li [p,i,q,_,_] [([2,0],[4]),([4],[5]),([5,1],[3])] [1,2,0] [3] rfl (by assumption) (Nat.min_le_left _ _) (l_p (li [_,i,_] [([2,0],[3]),([3],[1])] [0] [1] rfl (by assumption) (Nat.min_le_left _ _))),?_⟩
 rw [bf (κ:=κ) (Array.getElem?_eq_getElem (show p+i < xs.size by exact li [p,i,_,_,_] [([2,0],[4]),([4],[5]),([5,1],[3])] [1,2,0] [3] rfl hi (Nat.min_le_right _ _) (l_p (li [_,i,_] [([2,0],[3]),([3],[1])] [0] [1] rfl hi (Nat.min_le_right _ _))))),← e]; rfl
theorem Srt.seg {r:Array Keyed} (h:Srt κ r.toList):Seg κ r 0 r.size:=fun i j _ hij hj=>by
 by_cases e:i=j
 ·rw [e]; exact Int.le_refl _
 ·rw [bf (κ:=κ) (Array.getElem?_eq_getElem hj),bf (κ:=κ) (Array.getElem?_eq_getElem (Nat.lt_of_le_of_lt hij hj))]
  exact List.pairwise_iff_getElem.mp h i j (by rw [Array.length_toList]; exact li [i,_,j] [([1],[3]),([3,0],[2])] [1,0] [2] rfl hij hj) (by rw [Array.length_toList]; exact hj) (Nat.lt_of_le_of_ne hij e)
structure tO (κ:Keyed→Int) (xs ys:Array Keyed) (lo hi:Nat):Prop where
 perm:ys.Perm xs
 seg:Seg κ ys lo hi
 out: ∀ k,k < lo∨hi≤k→ys[k]?= xs[k]?
theorem ql {xs r:Array Keyed} {lo mid hi p q:Nat} (hlp:lo≤p) (hpm:p < mid) (hmq:mid < q) (hqh:q≤hi) (hh:hi≤xs.size) (s1:Seg κ xs lo mid) (s2:Seg κ xs mid hi)
  (h1: ∀ i,lo≤i→i < p→kAt κ xs i≤kAt κ xs mid) (h2: ∀ i,q≤i→i < hi→kAt κ xs (mid - 1)≤kAt κ xs i) (g:fU κ (xs.extract p mid) (xs.extract mid q) r):
  tO κ xs ((r.toList.zipIdx 0).foldl (fun a x=>a.setIfInBounds (p+x.2) x.1) xs) lo hi:=by
 have e:(xs.extract p mid).toList++(xs.extract mid q).toList=(xs.toList.drop p).take (q - p):=by
  rw [Array.toList_extract,Array.toList_extract,List.extract_eq_take_drop,List.extract_eq_take_drop,show q - p=(mid - p)+(q - mid) by exact l_a (li [_,_,_,p,q,_] [([1,4],[5]),([6],[2,4]),([5],[3,6])] [1] [2,3] rfl (l_d (li [p,q,_] [([1,0],[3]),([3,0],[2])] [1] [2] rfl hpm hmq)) (l_g _ _) (l_g _ _)) (li [_,_,_,q,p,_] [([4],[3,5]),([1,5],[6]),([2,6],[4])] [1,2] [3] rfl (l_g _ _) (l_d (li [p,_] [([1,0],[2])] [1] [2] rfl hpm)) (l_d (li [_,q] [([1,0],[2])] [1] [2] rfl hmq))),List.take_add,List.drop_drop,show p+(mid - p)=mid by exact l_a (li [p,_,_] [([2,1],[3])] [1,2] [3] rfl (l_d (li [p,_] [([1,0],[2])] [1] [2] rfl hpm))) (li [_,p,_] [([1],[3,2])] [1] [2,3] rfl (l_g _ _))]
 have hr:r.size=q - p:=by
  have:=g.1.length_eq
  rw [e,List.length_take,List.length_drop,Array.length_toList,Array.length_toList] at this
  exact l_a (li [_,_,_] [([1],[3]),([3],[2])] [1] [2] rfl (l_e this) (Nat.min_le_left _ _)) (li [_,_,_] [([3],[2]),([1],[3])] [1] [2] rfl (l_s this) (l_m (li [_,_,q,hi,_,p] [([3],[4]),([4],[5]),([1,6],[3]),([5],[2,6])] [1] [2] rfl hqh hh (l_d (li [p,q,_] [([1,0],[3]),([3,0],[2])] [1] [2] rfl hpm hmq)) (l_g _ _))))
 have get: ∀ k:Nat,((r.toList.zipIdx 0).foldl (fun a x=>a.setIfInBounds (p+x.2) x.1) xs)[k]?= if p≤k∧k < q then r[k - p]? else xs[k]?:=fun k=>by
  rw [pX p r.toList 0 xs k (by rw [Array.length_toList]; exact lin [p,_,_,q,hi,_] [(1,.v 3,.v 4),(1,.v 4,.v 2),(1,.v 1,.v 5),(1,.a (.v 5) (.v 0),.v 3)] 1 (.a (.a (.v 0) (.n 0)) (.v 1)) (.v 2) rfl hqh hh (l_e hr) (l_d (li [p,q,_] [([1,0],[3]),([3,0],[2])] [1] [2] rfl hpm hmq))),Array.length_toList,hr,Array.getElem?_toList,Nat.add_zero,show p+(q - p)=q by exact l_a (li [p,_,q] [([2,1],[3])] [1,2] [3] rfl (l_d (li [p,q,_] [([1,0],[3]),([3,0],[2])] [1] [2] rfl hpm hmq))) (li [q,p,_] [([1],[3,2])] [1] [2,3] rfl (l_g _ _))]
 have L:BE κ xs ((r.toList.zipIdx 0).foldl (fun a x=>a.setIfInBounds (p+x.2) x.1) xs) r p q:=by
  refine ⟨get,hr,Srt.seg g.2,fun j hj=>?_⟩
  have hm:r[j]∈(xs.extract p q).toList:=by
   rw [Array.toList_extract,List.extract_eq_take_drop,← e]
   exact g.1.mem_iff.mp (by simp)
  obtain ⟨_,i,a,b,c⟩:=nB (κ:=κ) hm
  exact ⟨i,a,b,by rw [c,bf (κ:=κ) (Array.getElem?_eq_getElem hj)]⟩
 refine ⟨?_,L.seg (fun i j a b c=>s1 i j a b (Nat.lt_trans c hpm)) (fun i j a b c=>s2 i j (Nat.le_trans (Nat.le_of_lt hmq) a) b c) (fun i j a b c d=>?_) (fun i j a b c d=>?_) (Nat.le_of_lt (Nat.lt_trans hpm hmq)) hqh,fun k hk=>by rw [get,if_neg (by lia)]⟩
 ·rw [Array.perm_iff_toList_perm,qt get hr (Nat.le_of_lt (Nat.lt_trans hpm hmq)) (Nat.le_trans hqh hh)]
  conv=>rhs; rw [DL xs.toList (show p≤q from Nat.le_of_lt (Nat.lt_trans hpm hmq)),← e]
  exact (g.1.append_right _).append_left _
 ·by_cases x:j < mid
  ·exact s1 i j a (Nat.le_trans (Nat.le_of_lt b) c) x
  ·exact Int.le_trans (h1 i a b) (s2 mid j (Nat.le_refl _) (Nat.not_lt.mp x) d)
 ·by_cases x:i < mid
  ·exact Int.le_trans (s1 i (mid - 1) (Nat.le_trans hlp a) (by exact li [i,_,_] [([1,0],[3]),([3],[2,0])] [1] [2] rfl x (l_g _ _)) (by exact (l_d (li [_,i] [([2,0],[1])] [0] [1] rfl x)))) (h2 j c d)
  ·exact s2 i j (Nat.not_lt.mp x) (Nat.le_trans (Nat.le_of_lt b) c) d
theorem mF {xs:Array Keyed} {lo mid hi:Nat} (s1:Seg κ xs lo mid) (s2:Seg κ xs mid hi) (h: ∀ i j,lo≤i→i < mid→mid≤j→j < hi→kAt κ xs i≤kAt κ xs j):Seg κ xs lo hi:=fun i j a b c=>by
 by_cases x:j < mid
 ·exact s1 i j a b x
 ·by_cases y:i < mid
  ·exact h i j a y (Nat.not_lt.mp x) c
  ·exact s2 i j (Nat.not_lt.mp y) b c
theorem ud {x:SortSt} {Q:PUnit→SortSt→Prop} {st:SortSt} {P:SortSt→Prop} (p:P x) (h: ∀ x,P x→Q ⟨⟩ x):wpS (model prog w) A E s (set x:StateT SortSt Sem PUnit) Q st:=by
 unfold wpS; exact wpAny_pure ⟨rfl,h x p⟩
theorem lx {st:SortSt} {i sa na pw sb nb pw':Nat} {Q:Bool→SortSt→Prop} (hL:oI prog w A E s kd κ a₀) (hB:SB kd a₀ st) (h1:(pendingOf st)[i]?= some (sa,na,pw)) (h2:(pendingOf st)[i+1]?= some (sb,nb,pw'))
  (e:sb=sa+na) (hna:0 < na) (hnb:0 < nb) (hn:sb+nb≤a₀.size) (s1:Seg κ (arrOf st) sa sb) (s2:Seg κ (arrOf st) sb (sb+nb))
  (h: ∀ st',SB kd a₀ st'→pendingOf st'=((pendingOf st).setIfInBounds i (sa,na+nb,pw)).eraseIdxIfInBounds (i+1)→tO κ (arrOf st) (arrOf st') sa (sb+nb)→Q true st'):
  wpS (model prog w) A E s (mergeAt' i) Q st:=by
 unfold mergeAt'
 refine wpS_bind (wpS_get ?_)
 rw [h1,h2]
 dsimp -zeta only
 refine wpS_bind (ud (P:=fun st'=>SB kd a₀ st'∧pendingOf st'=((pendingOf st).setIfInBounds i (sa,na+nb,pw)).eraseIdxIfInBounds (i+1)∧arrOf st'=arrOf st) ⟨⟨hB.perm,hB.kind,hB.failed⟩,rfl,rfl⟩ fun st₂ P=>?_)
 have hs:(arrOf st).size=a₀.size:=hB.size
 have mem: ∀ p∈(arrOf st).toList,p∈a₀.toList:=fun p hp=>(Array.perm_iff_toList_perm.mp hB.perm).mem_iff.mp hp
 have same:Seg κ (arrOf st) sa (sb+nb)→Q true st₂:=fun sg=>h st₂ P.1 P.2.1 ⟨by rw [P.2.2],by rw [P.2.2]; exact sg,fun k _=>by rw [P.2.2]⟩
 refine wpS_bind (bA (show sb < (arrOf st).size by exact lin [sb,_,nb,_] [(1,.a (.n 0) (.n 1),.v 2),(1,.a (.v 0) (.v 2),.v 3),(1,.v 3,.v 1)] 1 (.a (.v 0) (.n 1)) (.v 1) rfl hnb hn (l_s hs)) fun pb eb mb=>wpS_bind (cp (left:=false) (base:=sa) (n:=na) (hint:=0) hL P.1.kind (mem pb mb) (fun i hi=>hB.at (by exact li [sa,i,_,na,sb,nb] [([1,4],[5]),([5,6],[3]),([2,0],[4])] [1,2,0] [3] rfl (l_s e) hn hi)) (e▸s1) hna fun k hk1 hk2 hk3=>?_))
 have b1: ∀ i,sa≤i→i < sa+k→kAt κ (arrOf st) i≤kAt κ (arrOf st) sb:=fun i a b=>by
  have q:=hk2 (i - sa) (by exact li [_,k,i,sa] [([3,0],[4,2]),([1,4],[3])] [1,0] [2] rfl b (l_d (a)))
  simp only [bq,Bool.false_eq_true,if_false,decide_eq_true_eq] at q
  rwa [show sa+(i - sa)=i by exact l_a (li [sa,_,i] [([2,1],[3])] [1,2] [3] rfl (l_d (a))) (li [i,sa,_] [([1],[3,2])] [1] [2,3] rfl (l_g _ _)),← bf (κ:=κ) eb] at q
 dsimp -zeta only
 refine ay (fun z=>wpS_pure (same (mF s1 s2 fun i j a b c d=>Int.le_trans (b1 i a (by have:=beq_iff_eq.mp z; exact li [i,sa,k,sb,na,_] [([4],[2,5]),([1,0],[4]),([6],[]),([5],[6,3])] [1,0] [2,3] rfl (l_e e) b (l_e this) (l_g _ _))) (s2 sb j (Nat.le_refl _) c d)))) fun z=>?_
 have z:k < na:=Nat.lt_of_le_of_ne hk1 fun q=>z (beq_iff_eq.mpr (by exact l_a (li [_,na,k] [([2],[3]),([1,3],[2])] [1] [] rfl (l_s q) (l_d (hk1))) (li [_] [] [] [1] rfl )))
 refine wpS_bind (bA (show sa+k+(na - k) - 1 < (arrOf st).size by exact li [_,_,sa,na,sb,nb,_,_,k] [([3,4],[5]),([5,6],[7]),([7],[2]),([8,9],[4]),([1,0],[3,9,8])] [1,0] [2] rfl (l_s e) hn (l_s hs) (l_d (hk1)) (l_d (lin [sa,k,_,na] [(1,.a (.n 0) (.n 1),.v 3),(1,.v 3,.a (.v 2) (.v 1))] 1 (.n 1) (.a (.a (.v 0) (.v 1)) (.v 2)) rfl hna (l_g _ _)))) fun pa ea ma=>wpS_bind (cp (left:=true) (base:=sb) (n:=nb) (hint:=nb - 1) hL P.1.kind (mem pa ma) (fun i hi=>hB.at (by exact li [sb,i,_,nb] [([1,4],[3]),([2,0],[4])] [1,2,0] [3] rfl hn hi)) s2 (by exact (l_d (lin [nb] [(1,.a (.n 0) (.n 1),.v 0)] 1 (.n 1) (.v 0) rfl hnb))) fun k' hk1' hk2' hk3'=>?_))
 rw [show sa+k+(na - k) - 1=sb - 1 by exact l_a (li [_,_,sa,na,sb,_,k] [([3,4],[5]),([5],[2,0]),([6,7],[4]),([1,0],[3,7,6])] [1] [2] rfl (l_s e) (l_g _ _) (l_d (hk1)) (l_d (li [sa,k,_,sb,na,_] [([4],[1,5]),([6,0],[4]),([5],[3,2])] [0] [1,2,3] rfl (l_e e) (l_d (lin [sb,sa,na] [(1,.a (.v 1) (.v 2),.v 0),(1,.a (.n 0) (.n 1),.v 2)] 1 (.n 1) (.v 0) rfl (l_s e) hna)) (l_g _ _)))) (li [_,_,sb,sa,na,_,k] [([3],[4,5]),([1,0],[3]),([5],[6,7]),([4,7,6],[2,0])] [1] [2] rfl (l_e e) (l_d (lin [sb,sa,na] [(1,.a (.v 1) (.v 2),.v 0),(1,.a (.n 0) (.n 1),.v 2)] 1 (.n 1) (.v 0) rfl (l_s e) hna)) (l_g _ _) (l_g _ _))] at ea
 have b2: ∀ i,sb+k'≤i→i < sb+nb→kAt κ (arrOf st) (sb - 1)≤kAt κ (arrOf st) i:=fun i a b=>by
  have q:=hk3' (i - sb) (by exact li [k',_,sb,i] [([3,1],[4]),([4],[2,3])] [1] [2] rfl a (l_g _ _)) (by exact li [_,nb,i,sb] [([3,0],[4,2]),([1,4],[3])] [1,0] [2] rfl b (l_d (li [sb,i,k'] [([1,3],[2])] [1] [2] rfl a)))
  simp only [bq,if_true,decide_eq_false_iff_not] at q
  rw [show sb+(i - sb)=i by exact l_a (li [sb,_,i] [([2,1],[3])] [1,2] [3] rfl (l_d (li [sb,i,k'] [([1,3],[2])] [1] [2] rfl a))) (li [i,sb,_] [([1],[3,2])] [1] [2,3] rfl (l_g _ _)),← bf (κ:=κ) ea] at q
  exact Int.not_lt.mp q
 dsimp -zeta only
 refine ay (fun z'=>wpS_pure (same (mF s1 s2 fun i j a b c d=>Int.le_trans (s1 i (sb - 1) a (by exact li [i,_,sb] [([1,0],[3]),([3],[2,0])] [1] [2] rfl b (l_g _ _)) (by exact (l_d (li [sb,i] [([2,0],[1])] [0] [1] rfl b)))) (b2 j (by have:=beq_iff_eq.mp z'; exact li [sb,k',j] [([1],[3]),([2],[])] [1,2] [3] rfl c (l_e this)) d)))) fun z'=>?_
 have z':0 < k':=Nat.pos_of_ne_zero fun q=>z' (beq_iff_eq.mpr q)
 extract_lets x y jp
 have M:Mrg kd κ a₀ x y:=by
  refine ⟨fun p hp=>mem p (nB (κ:=κ) hp).1,fun p hp=>mem p (nB (κ:=κ) hp).1,tB (show sb≤(arrOf st).size by exact li [sb,_,nb,_] [([1,3],[4]),([4],[2])] [1] [2] rfl hn (l_s hs)) fun i j a b c=>s1 i j (by exact li [sa,i,k] [([1,3],[2])] [1] [2] rfl a) b c,tB (show sb+k'≤(arrOf st).size by exact li [sb,k',_,nb,_] [([1,4],[5]),([5],[3]),([2],[4])] [1,2] [3] rfl hn (l_s hs) hk1') fun i j a b c=>s2 i j a b (by exact li [j,sb,nb,k'] [([4],[3]),([1,0],[2,4])] [1,0] [2,3] rfl hk1' c),?_,fun p hp=>?_⟩
  ·show kAt κ ((arrOf st).extract sb (sb+k')) 0≤kAt κ ((arrOf st).extract (sa+k) sb) 0
   rw [aU (kQ (by exact li [sb,k',_,nb,_] [([1,4],[5]),([5],[3]),([2],[4])] [1,2] [3] rfl hn (l_s hs) hk1') (by exact lin [_,k',sb] [(1,.a (.n 0) (.n 1),.v 1),(1,.a (.v 2) (.v 1),.a (.v 0) (.v 2))] 1 (.a (.n 0) (.n 1)) (.v 0) rfl z' (l_g _ _))),aU (kQ (by exact li [sb,_,nb,_] [([1,3],[4]),([4],[2])] [1] [2] rfl hn (l_s hs)) (by exact lin [_,sa,na,sb,k] [(1,.a (.v 1) (.v 2),.v 3),(1,.a (.v 4) (.n 1),.v 2),(1,.v 3,.a (.v 0) (.a (.v 1) (.v 4)))] 1 (.a (.n 0) (.n 1)) (.v 0) rfl (l_s e) z (l_g _ _))),Nat.add_zero,Nat.add_zero]
   have q:=hk3 k (Nat.le_refl _) z
   simp only [bq,Bool.false_eq_true,if_false,decide_eq_false_iff_not,← bf (κ:=κ) eb] at q
   exact Int.le_of_lt (Int.not_le.mp q)
  ·obtain ⟨_,i,a,b,c⟩:=nB (κ:=κ) hp
   show _≤kAt κ ((arrOf st).extract (sa+k) sb) (((arrOf st).extract (sa+k) sb).size - 1)
   rw [jL (by exact li [sb,_,nb,_] [([1,3],[4]),([4],[2])] [1] [2] rfl hn (l_s hs)),aU (kQ (by exact li [sb,_,nb,_] [([1,3],[4]),([4],[2])] [1] [2] rfl hn (l_s hs)) (by exact (l_d (lin [_,sa,na,sb,k] [(1,.a (.v 1) (.v 2),.v 3),(1,.a (.v 4) (.n 1),.v 2),(1,.v 3,.a (.v 0) (.a (.v 1) (.v 4)))] 1 (.n 1) (.v 0) rfl (l_s e) z (l_g _ _))))),show sa+k+(sb - (sa+k) - 1)=sb - 1 by exact l_a (lin [sa,k,_,_,sb,_] [(1,.v 4,.a (.v 3) (.n 1)),(1,.a (.v 5) (.a (.v 0) (.v 1)),.v 4),(1,.a (.v 2) (.n 1),.v 5)] 1 (.a (.a (.v 0) (.v 1)) (.v 2)) (.v 3) rfl (l_g _ _) (l_d (li [sa,k,sb,na] [([1,4],[3]),([2],[4])] [1,2] [3] rfl (l_s e) hk1)) (l_d (lin [_,sa,na,sb,k] [(1,.a (.v 1) (.v 2),.v 3),(1,.a (.v 4) (.n 1),.v 2),(1,.v 3,.a (.v 0) (.a (.v 1) (.v 4)))] 1 (.n 1) (.v 0) rfl (l_s e) z (l_g _ _)))) (lin [_,sa,k,_,sb,_] [(1,.a (.v 0) (.n 1),.v 4),(1,.v 4,.a (.v 5) (.a (.v 1) (.v 2))),(1,.v 5,.a (.v 3) (.n 1))] 1 (.v 0) (.a (.a (.v 1) (.v 2)) (.v 3)) rfl (l_d (lin [sb,sa,na] [(1,.a (.v 1) (.v 2),.v 0),(1,.a (.n 0) (.n 1),.v 2)] 1 (.n 1) (.v 0) rfl (l_s e) hna)) (l_g _ _) (l_g _ _)),← c]
   have q:=hk2' (i - sb) (by exact li [_,k',i,sb] [([3,0],[4,2]),([1,4],[3])] [1,0] [2] rfl b (l_d (a)))
   simp only [bq,if_true,decide_eq_true_eq] at q
   rw [show sb+(i - sb)=i by exact l_a (li [sb,_,i] [([2,1],[3])] [1,2] [3] rfl (l_d (a))) (li [i,sb,_] [([1],[3,2])] [1] [2,3] rfl (l_g _ _)),← bf (κ:=κ) ea] at q
   exact Int.le_of_lt q
 have J: ∀ r st',aY st₂ st'→fU κ x y r→wpS (model prog w) A E s (jp r) Q st':=fun r st' hA g=>by
  have mg:=ql (xs:=arrOf st) (lo:=sa) (mid:=sb) (hi:=sb+nb) (p:=sa+k) (q:=sb+k') (by exact li [sa,k] [] [1] [1,2] rfl) (by exact li [sa,k,sb,na] [([1,4],[3]),([2,0],[4])] [1,2,0] [3] rfl (l_s e) z) (by exact lin [sb,k'] [(1,.a (.n 0) (.n 1),.v 1)] 1 (.a (.v 0) (.n 1)) (.a (.v 0) (.v 1)) rfl z') (by exact li [sb,k',nb] [([2],[3])] [1,2] [1,3] rfl hk1') (by exact li [sb,nb,_,_] [([1,2],[4]),([4],[3])] [1,2] [3] rfl hn (l_s hs)) s1 s2 b1 b2 g
  refine wpS_bind (wpS_modify (wpS_bind (wpS_get (wpS_pure ?_))))
  have f0:(failedOf st').isNone=true:=by rw [hA.failed,P.1.failed]; rfl
  have ea:arrOf st'=arrOf st:=hA.arr.trans P.2.2
  rw [← ea] at mg
  refine f0.symm▸h _ ⟨mg.perm.trans (by rw [ea]; exact hB.perm),hA.kind.trans P.1.kind,hA.failed.trans P.1.failed⟩ (hA.pend.trans P.2.1) (by rw [← ea]; exact mg)
 have hx:1≤x.size:=by show 1≤((arrOf st).extract (sa+k) sb).size; rw [jL (by exact li [sb,_,nb,_] [([1,3],[4]),([4],[2])] [1] [2] rfl hn (l_s hs))]; exact lin [_,sa,na,sb,k] [(1,.a (.v 1) (.v 2),.v 3),(1,.a (.v 4) (.n 1),.v 2),(1,.v 3,.a (.v 0) (.a (.v 1) (.v 4)))] 1 (.n 1) (.v 0) rfl (l_s e) z (l_g _ _)
 have hy:1≤y.size:=by show 1≤((arrOf st).extract sb (sb+k')).size; rw [jL (by exact li [sb,k',_,nb,_] [([1,4],[5]),([5],[3]),([2],[4])] [1,2] [3] rfl hn (l_s hs) hk1')]; exact lin [_,k',sb] [(1,.a (.n 0) (.n 1),.v 1),(1,.a (.v 2) (.v 1),.a (.v 0) (.v 2))] 1 (.n 1) (.v 0) rfl z' (l_g _ _)
 exact ay (fun _=>wpS_bind (ls hL P.1.kind M hx hy J)) fun _=>wpS_bind (lu hL P.1.kind M hx hy J)
end
end
noncomputable section
open PySem PyProof.Rows
noncomputable def Chain (κ:Keyed→Int) (xs:Array Keyed):List (Nat×Nat)→Nat→Nat→Prop
 | [],a,c=>a=c
 | t::r,a,c=>t.1=a∧0 < t.2∧Seg κ xs a (a+t.2)∧Chain κ xs r (a+t.2) c
noncomputable def prs (p:Array (Nat×Nat×Nat)):List (Nat×Nat):=p.toList.map fun t=>(t.1,t.2.1)
section
variable {prog:Program} {w:World} {A:Around} {E:Value→Shared→Prop} {s:Shared} {kd:SortKind} {κ:Keyed→Int} {a₀:Array Keyed} {xs ys:Array Keyed}
theorem Chain.len: ∀ {l:List (Nat×Nat)} {a c:Nat},Chain κ xs l a c→a+l.length≤c
 | [],_,_,h=>Nat.le_of_eq h
 | t::r,a,c,h=>by have:=Chain.len h.2.2.2; have:=h.2.1; rw [List.length_cons]; exact lin [a,_,c,_] [(1,.a (.a (.v 0) (.v 3)) (.v 1),.v 2),(1,.a (.n 0) (.n 1),.v 3)] 1 (.a (.v 0) (.a (.v 1) (.n 1))) (.v 2) rfl (by assumption) this
theorem Seg.keep {a c:Nat} (h:Seg κ xs a c) (e: ∀ k,a≤k→k < c→ys[k]?= xs[k]?):Seg κ ys a c:=fun i j hi hij hj=>by
 rw [aU (e i hi (Nat.lt_of_le_of_lt hij hj)),aU (e j (Nat.le_trans hi hij) hj)]; exact h i j hi hij hj
theorem Chain.keep: ∀ {l:List (Nat×Nat)} {a c:Nat},Chain κ xs l a c→(∀ k,a≤k→k < c→ys[k]?= xs[k]?)→Chain κ ys l a c
 | [],_,_,h,_=>h
 | t::r,a,c,h,e=>⟨h.1,h.2.1,h.2.2.1.keep fun k h1 h2=>e k h1 (Nat.lt_of_lt_of_le h2 (Nat.le_trans (Nat.le_add_right _ _) h.2.2.2.len)),Chain.keep h.2.2.2 fun k h1 h2=>e k (Nat.le_trans (Nat.le_add_right _ _) h1) h2⟩
theorem Chain.app: ∀ {l r:List (Nat×Nat)} {a b c:Nat},Chain κ xs l a b→Chain κ xs r b c→Chain κ xs (l++r) a c
 | [],_,_,_,_,h,q=>by cases h; exact q
 | _::_,_,_,_,_,h,q=>⟨h.1,h.2.1,h.2.2.1,Chain.app h.2.2.2 q⟩
theorem Chain.cut: ∀ {l r:List (Nat×Nat)} {a c:Nat},Chain κ xs (l++r) a c→∃ b,Chain κ xs l a b∧Chain κ xs r b c
 | [],_,a,_,h=>⟨a,rfl,h⟩
 | _::_,_,_,_,h=>let ⟨b,h1,h2⟩:=Chain.cut h.2.2.2; ⟨b,⟨h.1,h.2.1,h.2.2.1,h1⟩,h2⟩
theorem xh {α:Type} {l:List α} {i:Nat} (h:i+1 < l.length): ∃ l1 x y l2,l=l1++x::y::l2∧l1.length=i:=by
 refine ⟨l.take i,l[i],l[i+1],l.drop (i+2),?_,by rw [List.length_take]; exact Nat.min_eq_left (li [i,_] [([1,0,0],[2])] [1] [2] rfl h)⟩
 rw [← List.drop_eq_getElem_cons h,← List.drop_eq_getElem_cons (Nat.lt_of_succ_lt h),List.take_append_drop]
theorem iw {st:SortSt} {i lo:Nat} {Q:Bool→SortSt→Prop} (hL:oI prog w A E s kd κ a₀) (hB:SB kd a₀ st) (hc:Chain κ (arrOf st) (prs (pendingOf st)) 0 lo) (hlo:lo≤a₀.size) (hi:i+1 < (pendingOf st).size)
  (h: ∀ st',SB kd a₀ st'→Chain κ (arrOf st') (prs (pendingOf st')) 0 lo→(pendingOf st').size+1=(pendingOf st).size→(∀ k,lo≤k→(arrOf st')[k]?= (arrOf st)[k]?)→Q true st'):
  wpS (model prog w) A E s (mergeAt' i) Q st:=by
 obtain ⟨l1,⟨sa,na,pw⟩,⟨sb,nb,pw'⟩,l2,el,h1⟩:=xh (l:=(pendingOf st).toList) (by rw [Array.length_toList]; exact hi)
 have hc':=hc
 rw [prs,el,List.map_append,List.map_cons,List.map_cons] at hc'
 obtain ⟨b,c1,e1,n1,g1,e2,n2,g2,c2⟩:=hc'.cut
 dsimp only at e1 n1 g1 e2 n2 g2 c2
 subst e1
 have hb:=c2.len
 have e3:(pendingOf st)[i]?= some (sa,na,pw):=by rw [← Array.getElem?_toList,el,List.getElem?_append_right (Nat.le_of_eq h1),h1,Nat.sub_self]; rfl
 have e4:(pendingOf st)[i+1]?= some (sb,nb,pw'):=by rw [← Array.getElem?_toList,el,List.getElem?_append_right (by exact li [_,i] [([1],[2])] [1] [2,0] rfl (l_e h1)),h1,Nat.add_sub_cancel_left]; rfl
 subst e2
 refine lx hL hB e3 e4 rfl n1 n2 (by exact li [sa,na,nb,_,lo,_] [([5],[4]),([1,2,3,6],[5])] [1,2,3] [4] rfl hlo hb) g1 g2 fun st' hB' hp hm=>?_
 have el':(pendingOf st').toList=l1++(sa,na+nb,pw)::l2:=by
  rw [hp,Array.toList_eraseIdxIfInBounds,Array.toList_setIfInBounds,el,← h1,List.set_append_right _ _ (Nat.le_refl _),Nat.sub_self,List.set_cons_zero,List.eraseIdx_append_of_length_le (Nat.le_succ _),show l1.length.succ - l1.length=1 by exact l_a (li [_,_] [([1,2],[2,0])] [1] [0] rfl (l_d (li [_] [] [1] [1,0] rfl ))) (li [_,_] [([2,0],[1,2])] [0] [1] rfl (l_g _ _))]; rfl
 have ha:=c1.len
 refine h st' hB' ?_ ?_ fun k hk=>hm.out k (.inr (by exact li [sa,na,nb,k,_,lo] [([1,2,3,5],[6]),([6],[4])] [1,2,3] [4] rfl hb hk))
 ·rw [prs,el',List.map_append,List.map_cons]
  exact (c1.keep fun k _ h2=>hm.out k (.inl h2)).app ⟨rfl,Nat.add_pos_left n1 _,by show Seg κ _ sa (sa+(na+nb)); rw [← Nat.add_assoc]; exact hm.seg,by show Chain κ _ _ (sa+(na+nb)) lo; rw [← Nat.add_assoc]; exact c2.keep fun k h1 _=>hm.out k (.inr h1)⟩
 ·rw [← Array.length_toList,← Array.length_toList,el',el,List.length_append,List.length_append]; rfl
theorem ji {X:Type} {n:Nat} {f:Nat→Option Unit×X→StateT SortSt Sem (ForInStep (Option Unit×X))} {st:SortSt} {Q:Option Unit×X→SortSt→Prop} (I:Nat→X→SortSt→Prop) (K:X→SortSt→Prop) {x:X} (h0:I 0 x st)
  (hstep: ∀ i x st (R:ForInStep (Option Unit×X)→SortSt→Prop),i < n→I i x st→(∀ x st,K x st→R (.done (none,x)) st)→(∀ x st,I (i+1) x st→R (.yield (none,x)) st)→wpS (model prog w) A E s (f i (none,x)) R st)
  (hend: ∀ x st,I n x st→K x st) (hk: ∀ x st,K x st→Q (none,x) st):wpS (model prog w) A E s (forIn [0:n] (none,x) f) Q st:=by
 refine wpS_forRange (fun i c st=>c.1=none∧I i c.2 st) ?_ ?_ ⟨rfl,h0⟩
 ·rintro i ⟨_,x⟩ st _ hi ⟨rfl,hI⟩
  exact hstep i x st _ hi hI hk fun x st q=>⟨rfl,q⟩
 ·rintro ⟨_,x⟩ st ⟨rfl,hI⟩
  exact hk x st (hend _ _ (by rwa [Nat.zero_max] at hI))
theorem sm (p:Array (Nat×Nat×Nat)) (a b c:Nat):prs (p.push (a,b,c))=prs p++[(a,b)]:=by rw [prs,Array.toList_push,List.map_append]; rfl
theorem pZ (p:Array (Nat×Nat×Nat)):(prs p).length=p.size:=by rw [prs,List.length_map,Array.length_toList]
theorem om (p:Array (Nat×Nat×Nat)) (i:Nat) (f:Nat×Nat×Nat→Nat×Nat×Nat) (h: ∀ t,(f t).1=t.1∧(f t).2.1=t.2.1):prs (p.modify i f)=prs p:=by
 apply List.ext_getElem?
 intro k
 rw [prs,prs,List.getElem?_map,List.getElem?_map,Array.getElem?_toList,Array.getElem?_toList,Array.getElem?_modify]
 split
 ·cases p[k]? with
  | none=>rfl
  | some t=>exact congrArg some (Prod.ext (h t).1 (h t).2)
 ·rfl
theorem yQ {c:Prop} [Decidable c] {n:Nat} (h: ¬ n≤1):(if c then n - 2 - 1 else n - 2)+1 < n:=by split<;>omega
theorem rR {st:SortSt} {Q:Unit→SortSt→Prop} (hL:oI prog w A E s kd κ a₀) (hB:SB kd a₀ st) (hp:pendingOf st= #[])
  (h: ∀ st',SB kd a₀ st'→Seg κ (arrOf st') 0 a₀.size→Q () st'):wpS (model prog w) A E s sortRuns' Q st:=by
 rw [sortRuns'_eq]
 refine wpS_bind (wpS_get ?_)
 extract_lets size minrun lo0
 have hs:size=a₀.size:=hB.size
 clear_value size minrun
 subst hs
 refine wpS_bind (ji (fun i lo st=>(SB kd a₀ st∧Chain κ (arrOf st) (prs (pendingOf st)) 0 lo)∧lo≤a₀.size∧i≤lo) (fun lo st=>(SB kd a₀ st∧Chain κ (arrOf st) (prs (pendingOf st)) 0 lo)∧lo=a₀.size)
  ⟨⟨hB,by rw [hp]; rfl⟩,Nat.zero_le _,Nat.le_refl _⟩ ?step (fun lo st q=>⟨q.1,Nat.le_antisymm q.2.1 q.2.2⟩) ?post)
 case step=>
  clear h hB hp
  intro i lo st R hi J hD hY
  refine ay (fun z=>wpS_pure (hD _ _ ⟨J.1,Nat.le_antisymm J.2.1 z⟩)) fun z=>wpS_bind (oZ hL (Nat.le_of_eq (Nat.add_sub_cancel' J.2.1)) (Nat.sub_pos_of_lt (Nat.not_le.mp z)) J.1.1 fun m st₁ hB₁ hp₁ ha₁ hm1 hm2 sg=>?_)
  have c1:Chain κ (arrOf st₁) (prs (pendingOf st₁)) 0 lo:=by rw [hp₁]; exact J.1.2.keep fun k _ hk=>ha₁ k hk
  dsimp -zeta only
  extract_lets n1 jp force
  have T: ∀ n st,SB kd a₀ st→Chain κ (arrOf st) (prs (pendingOf st)) 0 lo→1≤n→n≤a₀.size - lo→Seg κ (arrOf st) lo (lo+n)→wpS (model prog w) A E s (jp () n) R st:=by
   clear c1 sg hm1 hm2 ha₁ hp₁ hB₁ st₁
   intro n st hB c1 h1 h2 sg
   refine wpS_bind (wpS_get ?_)
   extract_lets lo' jp2
   have U: ∀ st,SB kd a₀ st→Chain κ (arrOf st) (prs (pendingOf st)) 0 lo→Seg κ (arrOf st) lo (lo+n)→wpS (model prog w) A E s (jp2 ()) R st:=fun st hB c1 sg=>
    wpS_bind (wpS_modify (wpS_pure (hY _ _ ⟨⟨⟨hB.perm,hB.kind,hB.failed⟩,by show Chain κ (arrOf st) (prs ((pendingOf st).push (lo,n,0))) 0 (lo+n); rw [sm]; exact c1.app ⟨rfl,h1,sg,rfl⟩⟩,fb h2 J.2.1,Nat.le_trans (Nat.succ_le_succ J.2.2) (Nat.add_le_add_left h1 _)⟩)))
   clear_value jp2
   cases (pendingOf st).back? with
   | none=>exact U st hB c1 sg
   | some t=>
    refine wpS_bind (ji (fun _ _ st=>SB kd a₀ st∧Chain κ (arrOf st) (prs (pendingOf st)) 0 lo∧Seg κ (arrOf st) lo (lo+n)) (fun _ st=>SB kd a₀ st∧Chain κ (arrOf st) (prs (pendingOf st)) 0 lo∧Seg κ (arrOf st) lo (lo+n)) ⟨hB,c1,sg⟩ ?istep (fun _ _ q=>q) fun _ st q=>
     wpS_bind (wpS_modify (U _ ⟨q.1.perm,q.1.kind,q.1.failed⟩ (by
      have e:=om (pendingOf st) ((pendingOf st).size - 1) (fun x=>(x.1,x.2.1,power' a₀.size (2*t.1+t.2.1) (2*t.1+t.2.1+t.2.1+n) a₀.size)) fun _=>⟨rfl,rfl⟩
      have:=q.2.1
      rw [← e] at this
      exact this) q.2.2)))
    clear U sg c1 hB hD hY R
    intro _ _ st R _ q hD hY
    refine wpS_bind (wpS_get ?_)
    extract_lets p
    by_cases z:p.size > 1
    ·rw [if_pos z]
     cases p[p.size - 2]? with
     | none=>exact wpS_pure (hD _ _ q)
     | some t=>exact ay (fun _=>wpS_pure (hD _ _ q)) fun _=>wpS_bind (iw hL q.1 q.2.1 J.2.1 (by show p.size - 2+1 < p.size; exact li [_,_] [([1,0,0],[2])] [1,0,0] [2] rfl (l_d (li [_] [([0,0],[1])] [0,0] [1] rfl z))) fun st' a b _ d=>wpS_pure (hY _ _ ⟨a,b,q.2.2.keep fun k hk _=>d k hk⟩))
    ·rw [if_neg z]
     exact wpS_pure (hD _ _ q)
  refine ay (fun z=>wpS_bind (wpS_lift (wpAny_rule ⟨rfl,wpS_bind (ly hL (fb (Nat.min_le_left _ _) J.2.1) (Nat.le_min.mpr ⟨hm2,Nat.le_of_lt z⟩) hB₁ sg fun st₂ hB₂ hp₂ sg₂ ha₂=>?_)⟩))) fun z=>T _ _ hB₁ c1 hm1 hm2 sg
  exact T _ _ hB₂ (by rw [hp₂]; exact c1.keep fun k _ hk=>ha₂ k hk) (Nat.le_min.mpr ⟨Nat.le_trans hm1 hm2,Nat.le_trans hm1 (Nat.le_of_lt z)⟩) (Nat.min_le_left _ _) sg₂
 case post=>
  intro lo st q
  have e:=q.2
  subst e
  refine wpS_bind (ji (fun i _ st=>(SB kd a₀ st∧Chain κ (arrOf st) (prs (pendingOf st)) 0 a₀.size)∧(pendingOf st).size+i≤a₀.size) (fun _ st=>(SB kd a₀ st∧Chain κ (arrOf st) (prs (pendingOf st)) 0 a₀.size)∧(pendingOf st).size≤1)
   ⟨q.1,by have:=q.1.2.len; rw [pZ,Nat.zero_add] at this; exact this⟩ ?fstep (fun _ st q=>⟨q.1,by have:=q.2; exact li [_,_] [([1,2],[2])] [1] [0] rfl q.2⟩) fun _ st q=>wpS_pure (h st q.1.1 ?_))
  ·clear h q
   intro i _ st R _ q hD hY
   refine wpS_bind (wpS_get (ay (fun z=>wpS_pure (hD _ _ ⟨q.1,z⟩)) fun z=>wpS_bind (iw hL q.1.1 q.1.2 (Nat.le_refl _) (yQ z) fun st' a b c _=>wpS_pure (hY _ _ ⟨⟨a,b⟩,by have:=q.2; exact li [_,i,_,_] [([4,2],[3]),([1,0],[4])] [1,2,0] [3] rfl q.2 (l_e c)⟩))))
  ·have q1:=q.1.2
   have q2:=q.2
   rw [← pZ] at q2
   generalize prs (pendingOf st)=l at q1 q2
   match l,q1,q2 with
   | [],q1,_=>rw [← show 0=a₀.size from q1]; exact fun i j _ _ h=>absurd h (Nat.not_lt_zero _)
   | [t],q1,_=>rw [← show 0+t.2=a₀.size from q1.2.2.2]; exact q1.2.2.1
   | _::_::_,_,q2=>exact absurd q2 (by simp)
end
end
noncomputable section
open PySem PyProof.Rows
section
variable {prog:Program} {w:World} {A:Around} {E:Value→Shared→Prop} {s:Shared} {kd:SortKind} {κ:Value→Int}
noncomputable def Old (s:Shared) (a:Addr) (s':Shared):Prop:=∀ b o,b≠a→s.heap.get? b=some o→s'.heap.get? b=some o
theorem em {vs:List Value} {xs:Array Keyed} (hp:xs.Perm (pairsOf vs)) (hs:Seg (fun p=>κ p.1) xs 0 (pairsOf vs).size):
  (xs.map (·.2)).toList.Perm vs∧(xs.map (·.2)).toList.Pairwise fun x y=>κ x≤κ y:=by
 have hl:xs.toList.Perm (vs.zip vs):=by rw [← pairsOf_toList]; exact Array.perm_iff_toList_perm.mp hp
 have hm: ∀ p,p∈xs.toList→p.1=p.2∧p.1∈vs:=fun p q=>mem_zip_self (hl.mem_iff.mp q)
 have e:(xs.map (·.2)).toList=xs.toList.map (·.1):=by rw [Array.toList_map]; exact List.map_congr_left fun p q=>(hm p q).1.symm
 rw [e]
 refine ⟨?_,?_⟩
 ·have:=hl.map Prod.fst
  rwa [List.map_fst_zip (Nat.le_refl _)] at this
 ·rw [List.pairwise_map,List.pairwise_iff_getElem]
  intro i j hi hj hij
  rw [Array.length_toList] at hi hj
  have:=hs i j (Nat.zero_le _) (Nat.le_of_lt hij) (by rw [← hp.size_eq]; exact hj)
  rwa [bf (κ:=fun p=>κ p.1) (Array.getElem?_eq_getElem hi),bf (κ:=fun p=>κ p.1) (Array.getElem?_eq_getElem hj)] at this
theorem jI {a:Addr} {vs:List Value} {n:Nat} {P:Fin→Shared→Prop} (ho:s.heap.get? a=some (seqObj "list" vs.toArray n)) (hlen:vs.length≤16000000)
  (hK: ∀ s',Old s a s'→2≤vs.length→wpAny (model prog w) A (keyKind' vs.toArray) (fun k s''=>k=kd∧s''=s') E s')
  (hL: ∀ s',Old s a s'→oI prog w A E s' kd (fun p=>κ p.1) (pairsOf vs))
  (h: ∀ out:Array Value,out.toList.Perm vs→(out.toList.Pairwise fun x y=>κ x≤κ y)→P (.done (.ret .none)) { s with heap:=sortedHeap s.heap a vs out }):
  wpAny (model prog w) A (Builtin.«list.sort» ⟨[.ref a],[]⟩) P E s:=by
 rw [list_sort_plain]
 have ha:a < s.heap.objs.size:=Heap.lt_size ho
 refine wpAny_bind (listItems_at ho rfl ?_)
 refine wpAny_bind (listUpdate_at ho rfl ?_ (by rw [sizeLine_eq]; simp; exact lin [_] [(1,.v 0,.n 16000000)] 1 (.v 0) (.n 16777216) rfl hlen))
 obtain ⟨e1,ho1⟩: ∃ e1,(s.heap.update a (Obj.mapSeq fun _=>#[])).get? a=some (seqObj "list" #[] e1):=⟨_,get?_update_seq ho (fun _=>#[])⟩
 refine wpAny_bind (seqEpoch_at ho1 rfl ?_)
 refine wpAny_bind (wpAny_newTuple ?_ (by rw [sizeLine_eq]; simp; exact lin [_] [(1,.v 0,.n 16000000)] 1 (.v 0) (.n 16777216) rfl hlen))
 refine wpAny_bind (wpAny_newList ?_)
 refine wpAny_holding ?_
 have old: ∀ (b:Addr),b < s.heap.objs.size→((((s.heap.update a (Obj.mapSeq fun _=>#[])).push (seqObj "tuple" vs.toArray 0)).push (seqObj "list" #[] 0))).get? b=(s.heap.update a (Obj.mapSeq fun _=>#[])).get? b:=fun b hb=>by
  rw [Heap.get?_push_ne _ _ _ (by rw [size_push',Heap.size_update]; exact Nat.ne_of_lt (Nat.lt_succ_of_lt hb)),Heap.get?_push_ne _ _ _ (by rw [Heap.size_update]; exact Nat.ne_of_lt hb)]
 have ho6:=(old a ha).trans ho1
 have hold:Old s a { s with heap:=((s.heap.update a (Obj.mapSeq fun _=>#[])).push (seqObj "tuple" vs.toArray 0)).push (seqObj "list" #[] 0)}:=fun b o hb hg=>
  (old b (Heap.lt_size hg)).trans (by rw [Heap.get?_update_ne _ _ _ _ hb]; exact hg)
 show wpAny (model prog w) A _ P E { s with heap:=((s.heap.update a (Obj.mapSeq fun _=>#[])).push (seqObj "tuple" vs.toArray 0)).push (seqObj "list" #[] 0)}
 dsimp only
 have fin: ∀ st':SortSt,(arrOf st').Perm (pairsOf vs)→Seg (fun p=>κ p.1) (arrOf st') 0 (pairsOf vs).size→
   P (.done (.ret .none)) { s with heap:=sortedHeap s.heap a vs ((arrOf st').map (·.2))}:=fun st' hp hs=>h _ (em hp hs).1 (em hp hs).2
 by_cases h2:vs.toArray.size < 2
 ·rw [if_pos h2,if_pos h2]
  refine wpAny_bind (wpAny_pure ?_)
  rw [StateT.run_pure]
  refine wpAny_bind (wpAny_pure ?_)
  dsimp only
  refine wpAny_bind (seqEpoch_at ho6 rfl ?_)
  refine wpAny_bind (listUpdate_at ho6 rfl ?_ (hsz2:=by rw [Array.size_map]; show (pairsOf vs).size≤_; rw [pairsOf_size,sizeLine_eq]; exact lin [_] [(1,.v 0,.n 16000000)] 1 (.v 0) (.a (.n 16777216) (.n 1)) rfl hlen))
  simp only [bne_self_eq_false,Bool.false_eq_true,if_false]
  refine wpAny_pure (fin (SortSt.mk' general' (vs.toArray.zip vs.toArray) #[] 7 none) (Array.Perm.refl _) ?_)
  intro i j _ hij hj
  have:i=j:=by rw [pairsOf_size] at hj; rw [List.size_toArray] at h2; exact l_a (hij) (li [j,i,_] [([3,0],[0,0]),([1,0],[3])] [1] [2] rfl h2 hj)
  subst this; exact Int.le_refl _
 ·rw [if_neg h2,if_neg h2]
  refine wpAny_bind (wpAny_mono (hK _ hold (by rw [List.size_toArray] at h2; exact (l_t h2))) ?_ fun _ _ e=>e)
  rintro kd _ ⟨rfl,rfl⟩
  refine wpAny_bind (wpAny_mono (rR (a₀:=pairsOf vs) (st:=SortSt.mk' kd (vs.toArray.zip vs.toArray) #[] 7 none)
   (Q:=fun _ st'=>(arrOf st').Perm (pairsOf vs)∧failedOf st'=none∧Seg (fun p=>κ p.1) (arrOf st') 0 (pairsOf vs).size)
   (hL _ hold) ⟨Array.Perm.refl _,rfl,rfl⟩ rfl fun st' a1 a2=>⟨a1.perm,a1.failed,a2⟩) ?_ fun _ _ e=>e)
  rintro ⟨⟨⟩,st'⟩ s' ⟨rfl,hp,hf,hs⟩
  dsimp only
  refine wpAny_bind (seqEpoch_at ho6 rfl ?_)
  refine wpAny_bind (listUpdate_at ho6 rfl ?_ (hsz2:=by refine Nat.le_trans (Nat.le_of_eq ((Array.size_map ..).trans (hp.size_eq.trans (pairsOf_size _)))) ?_; rw [sizeLine_eq]; exact lin [_] [(1,.v 0,.n 16000000)] 1 (.v 0) (.a (.n 16777216) (.n 1)) rfl hlen))
  rw [hf]
  simp only [bne_self_eq_false,Bool.false_eq_true,if_false]
  exact wpAny_pure (fin st' hp hs)
theorem pK {x:Value} {G:List Value→Prop} {Q:Value→Shared→Prop}
  (hc: ∀ R:List Value→Shared→Prop,(∀ vs h' tk,(∀ b o,s.heap.get? b=some o→h'.get? b=some o)→G vs→R vs { s with heap:=h',toks:=tk })→wpAny (model prog w) A.in1 (collect x) R E s)
  (hlen: ∀ vs,G vs→vs.length≤16000000)
  (hK: ∀ vs,G vs→∀ s',(∀ b o,s.heap.get? b=some o→s'.heap.get? b=some o)→2≤vs.length→wpAny (model prog w) A.in1.in1 (keyKind' vs.toArray) (fun k s''=>k=kd∧s''=s') E s')
  (hL: ∀ vs,G vs→∀ s',(∀ b o,s.heap.get? b=some o→s'.heap.get? b=some o)→oI prog w A.in1.in1 E s' kd (fun p=>κ p.1) (pairsOf vs))
  (h: ∀ (vs:List Value) (out:Array Value) h' tk a,G vs→out.toList.Perm vs→(out.toList.Pairwise fun x y=>κ x≤κ y)→(∀ b o,s.heap.get? b=some o→h'.get? b=some o)→s.heap.get? a=none→(∃ e,h'.get? a=some (seqObj "list" out e))→Q (.ref a) { s with heap:=h',toks:=tk }):
  wpAny (model prog w) A (call (.builtin "sorted") [x]) Q E s:=by
 refine Calls.call_function_entry kind_sorted plain_sorted entry_sorted (args_sorted1 _) ?_
 unfold Builtin.«sorted»
 refine wpAny_bind (m:=checkCount "sorted" 1 1 _) (wpAny_pure ?_)
 refine wpAny_bind (hc _ fun vs h' tk kp g=>?_)
 have hl:=hlen vs g
 refine wpAny_bind (wpAny_newList ?_ (by rw [sizeLine_eq]; exact lin [_] [(1,.v 0,.n 16000000)] 1 (.v 0) (.n 16777216) rfl hl))
 have hoL:(h'.push (seqObj "list" vs.toArray 0)).get? h'.objs.size=some (seqObj "list" vs.toArray 0):=Heap.get?_push_size _ rfl
 have old: ∀ b o,s.heap.get? b=some o→b≠h'.objs.size∧(h'.push (seqObj "list" vs.toArray 0)).get? b=some o:=fun b o hb=>
  ⟨Nat.ne_of_lt (Heap.lt_size (kp b o hb)),Heap.get?_push_of_some _ (kp b o hb)⟩
 show wpAny _ _ _ _ _ { s with heap:=h'.push (seqObj "list" vs.toArray 0),toks:=tk }
 refine wpAny_bind (wpAny_holding (wpAny_call_entry slot_list_sort ⟨_,hoL,rfl⟩ entry_list_sort (jI (κ:=κ) hoL hl (fun s' q=>hK vs g s' fun b o hb=>q b o (old b o hb).1 (old b o hb).2) (fun s' q=>hL vs g s' fun b o hb=>q b o (old b o hb).1 (old b o hb).2) fun out a1 a2=>⟨_,rfl,?_⟩) (args_list_sort _)))
 refine wpAny_pure ⟨_,rfl,h vs out _ _ _ g a1 a2 (fun b o hb=>?_) ?_ (sortedHeap_at hoL)⟩
 ·rw [sortedHeap_old (old b o hb).1 (Heap.lt_size (old b o hb).2)]; exact (old b o hb).2
 ·cases e:s.heap.get? h'.objs.size with
  | none=>rfl
  | some o=>exact absurd (Heap.lt_size (kp _ _ e)) (Nat.lt_irrefl _)
end
end
end Mine
set_option maxRecDepth 100000
namespace Mine
noncomputable section
open PySem PySem.W PyProof.Rows
noncomputable def dK (K:Frag) (D:Addr):Bool:=
 findIn K (.ref D) "__getattribute__" == some (some (.builtin "BaseException.__getattribute__")) && findIn K (.ref D) "__getattr__" == some none && (clsIn K D).isSome &&
 findIn K (.ref D) "__class__" == some (some (.builtin "object.__class__")) && specialIn K (.builtin "object.__class__") "__get__" == some (some (.builtin "getset_descriptor.__get__")) && takesIn K (.builtin "object.__class__") == some true &&
 mroIn K D (.type "object") == some true && subIn K (.ref D) (.type "BaseException") == some true
section
variable {prog:Program} {w:World} {A:Around} {E:Value→Shared→Prop} {s:Shared} {K:Frag} {x D:Addr} {ox:Obj}
theorem qN {tk:Tok} {Q:Fin→Shared→Prop} (X:K.In s.heap) (I:InstAt s.heap x ox D none) (hf:findObj K D none "__class__" =some (.bind (.builtin "getset_descriptor.__get__") (.builtin "object.__class__"))) (hm:mroIn K D (.type "object")=some true)
  (hq:Q (.done (.ret (.ref D))) s):wpAny (model prog w) A (Builtin.«object.__getattribute__» ⟨[.ref x,.str "__class__" tk],[]⟩) Q E s:=by
 obtain ⟨hh,gg,d,t,os⟩:=s
 have L0:=I.type (M:=model prog w)
 have L1:=looks_find (M:=model prog w) X I hf
 unfold Builtin.«object.__getattribute__»
 refine wpAny_bind (wpAny_pure ?_)
 refine wpAny_bind (wpAny_pure (wpAny_bind (L0.at (wpAny_bind (L1.at ?_)))))
 show wpAny _ _ (holding [_] (call _ [_,.ref x,.ref D]) >>= ret) _ _ _
 refine wpAny_bind (wpAny_holding (wpAny_call (class_get (s:=⟨hh,gg,d,t,os⟩) (ox:=ox) (od:=none) X I hm ?_)))
 exact wpAny_pure hq
theorem qP {tk:Tok} {Q:Unit→Shared→Prop} {M:Model} (X:K.In s.heap) (I:InstAt s.heap x ox D none) (hb:subIn K (.ref D) (.type "BaseException")=some true) (hq:Q () s):
  wpAny M A (checkBuiltinCall "BaseException.__getattribute__" ⟨[.ref x,.str "__class__" tk],[]⟩) Q E s:=by
 have hk:builtinKind "BaseException.__getattribute__" =some .slot:=by decide +kernel
 have hsplit:splitId "BaseException.__getattribute__" =some ("BaseException", "__getattribute__"):=by decide +kernel
 have ha:=PySem.F.args_bexc_ga (.ref x) (.str "__class__" tk)
 have L:Looks M s.heap (isInstance (.ref x) (.type "BaseException")) true:=I.type.andThen (looks_subIn X hb)
 simp only [checkBuiltinCall,hk,hsplit]
 refine wpAny_bind (L.at ?_)
 repeat (any_goals (first | assumption | wp_step))
theorem qO {Q:Option Value→Shared→Prop} (X:K.In s.heap) (I:InstAt s.heap x ox D none) (e:dK K D=true) (h:Q (some (.ref D)) { s with toks:=s.toks+1 }):wpAny (model prog w) A (getAttr? (.ref x) "__class__") Q E s:=by
 simp only [dK,Bool.and_eq_true,beq_iff_eq] at e
 obtain ⟨⟨⟨⟨⟨⟨⟨e1,e2⟩,e3⟩,e4⟩,e5⟩,e6⟩,e7⟩,e8⟩:=e
 have hf:findObj K D none "__class__" =some (.bind (.builtin "getset_descriptor.__get__") (.builtin "object.__class__")):=by
  obtain ⟨cd,hcd⟩:=Option.isSome_iff_exists.mp e3
  unfold findObj
  rw [hcd,Option.bind_some,e4,Option.bind_some]
  dsimp only
  rw [e5,Option.bind_some]
  dsimp only
  rw [e6,Option.bind_some]
 obtain ⟨hh,gg,d,t,os⟩:=s
 have L0:=I.type (M:=model prog w)
 have L1:=looks_findIn (M:=model prog w) X e1
 have L2:=looks_findIn (M:=model prog w) X e2
 unfold getAttr? getAttrBy? getAttrBy
 refine wpAny_bind (wpAny_mkText (wpAny_bind (wpAny_attempt (wpAny_holding (wpAny_bind (L0.at (wpAny_bind (L1.at ?_))))))))
 show wpAny _ _ (getAttrByItsOwn _ _ _ _ _ _) _ _ _
 unfold getAttrByItsOwn
 refine wpAny_bind ?_
 show wpAny _ _ (typeLookup (.ref D) "__getattr__") _ _ _
 refine L2.at (wpAny_bind (wpAny_attempt (wpAny_holding ?_)))
 show wpAny _ _ (boundAndCalled _ _ _) _ _ _
 unfold boundAndCalled
 rw [PySem.F.attr_ValueError.ga.bind (.ref x)]
 refine wpAny_bind (wpAny_pure ?_)
 show wpAny _ _ (call _ [.ref x,_]) _ _ _
 refine wpAny_call (codeAny_call_builtin PySem.F.attr_ValueError.ga.plain PySem.F.entry_bexc_ga (qP (s:=⟨hh,gg,d,t+1,os⟩) X I e8 (qN (s:=⟨hh,gg,d,t+1,os⟩) X I hf e7 ?_)))
 exact handed_on rfl (wpAny_pure h)
theorem sH (e:dK K D=true):KitX K (.ref x) (.ref D) (fun h=>∃ ox,InstAt h x ox D none) where
 ty:=fun _ _ _ ⟨_,I⟩=>I.type
 it:=fun _ _ X _=>by
  simp only [dK,Bool.and_eq_true,beq_iff_eq] at e
  obtain ⟨cdD,hcD⟩:=Option.isSome_iff_exists.mp e.1.1.1.1.1.2
  unfold clsIn at hcD
  split at hcD
  ·rename_i c' d' cd' sl' ho
   intro A' Q' E' s' k q
   unfold isType loadHead
   exact wpAny_bind (wpAny_loadPart (k _ _ (X _ _ ho)) (wpAny_pure q))
  ·cases hcD
 ne:=fun h tp dd its n sl X htp=>by
  simp only [dK,Bool.and_eq_true,beq_iff_eq] at e
  obtain ⟨cdD,hcD⟩:=Option.isSome_iff_exists.mp e.1.1.1.1.1.2
  refine Bool.eq_false_iff.mpr fun q=>?_
  have e:D=tp:=Value.ref.inj (beq_iff_eq.mp q)
  subst e
  unfold clsIn at hcD
  split at hcD
  ·rename_i c' d' cd' sl' ho
   have z:=(X _ _ ho).symm.trans htp
   cases z
  ·cases hcD
 ca:=fun X ⟨_,I⟩ k=>qO X I e k
theorem wc {c:Value} {b:Bool} {Q:Value→Shared→Prop} (X:K.In s.heap) (I:InstAt s.heap x ox D none) (e:dK K D=true) (q:kitOne K (.ref D) c=some b) (h: ∀ tk,Q (.bool b) { s with toks:=tk }):
  wpAny (model prog w) A (call (.builtin "isinstance") [.ref x,c]) Q E s:=kia_one (sH e) X ⟨ox,I⟩ q (fun z=>by cases z) h
noncomputable def dB (K:Frag) (D C:Addr):Bool:=(clsIn K C).isSome && instIn K (.ref C) (.type "tuple") == some false && subIn K (.ref C) (.type "BaseException") == some true && subIn K (.ref D) (.ref C) == some true
theorem lV {M:Model} {C:Addr} {Q:Bool→Shared→Prop} (X:K.In s.heap) (I:InstAt s.heap x ox D none) (e:dB K D C=true) (h:Q true s):wpAny M A (excMatches (.ref x) (.ref C)) Q E s:=by
 simp only [dB,Bool.and_eq_true,beq_iff_eq] at e
 obtain ⟨⟨⟨e0,e1⟩,e2⟩,e3⟩:=e
 have L0:=looks_instIn (M:=M) X e1
 have L1:=looks_subIn (M:=M) X e2
 have L2:=looks_subIn (M:=M) X e3
 have L3:=I.type (M:=M)
 have L4:Looks M s.heap (isType (.ref C)) true:=by
  obtain ⟨cdD,hcD⟩:=Option.isSome_iff_exists.mp e0
  unfold clsIn at hcD
  split at hcD
  ·rename_i c' d' cd' sl' ho
   intro A' Q' E' s' k q
   unfold isType loadHead
   exact wpAny_bind (wpAny_loadPart (k _ _ (X _ _ ho)) (wpAny_pure q))
  ·cases hcD
 obtain ⟨hh,gg,d,t,os⟩:=s
 unfold excMatches
 with_reducible refine wpAny_bind ?_
 refine L0.at ?_
 simp only [Bool.false_eq_true,if_false]
 repeat (any_goals (first | assumption | lk))
end
end
noncomputable section
open PySem
inductive V where
 | none
 | bool (b:Bool)
 | int (i:Int)
 | str (s:List Nat)
 | tup (vs:List V)
 | lst (vs:List V)
 | rng (a b c:Int)
 | loc (i:Nat)
inductive BN where
 | len | str | int | range | list | sorted | max | min
inductive MN where
 | append | startswith | pop | index | split | join | get | extend
noncomputable def BN.name (f:BN):String:=BN.rec "len" "str" "int" "range" "list" "sorted" "max" "min" f
noncomputable def MN.name (f:MN):String:=MN.rec "append" "startswith" "pop" "index" "split" "join" "get" "extend" f
inductive HO where
 | list (vs:List V)
 | inst (c:String)
 | obj (j:Nat)
 | attrs (fs:List (String×V))
 | dictS (kvs:List (List Nat×V))
 | dictI (kvs:List (Int×V))
 | dead
structure St where
 s:String→Option V
 H:List HO
noncomputable def St.set (st:St) (x:String) (v:V):St:=⟨fun y=>if y=x then some v else st.s y,st.H⟩
noncomputable def St.unset (st:St) (x:String):St:=⟨fun y=>if y=x then .none else st.s y,st.H⟩
inductive Flow where
 | next | brk | cont
 | ret (v:V)
set_option genCtorIdx false in
set_option genInjectivity false in
mutual
inductive E where
 | stuck | omit
 | none | bool (b:Bool) | int (i:Int) | str (s:List Nat)
 | var (x:String)
 | glo (x:String)
 | tup (es:Es)
 | list (es:Es)
 | bin (op:Operator) (a b:E)
 | neg (a:E)
 | not (a:E)
 | and (es:Es)
 | or (es:Es)
 | cmp (op:CmpOp) (a b:E)
 | cmp2 (op op':CmpOp) (a b c:E)
 | idx (a i:E)
 | slc (a lo hi:E)
 | call (f:String) (es:Es)
 | blt (f:BN) (es:Es)
 | isi (a:E) (t:String)
 | mth (m:MN) (a:E) (es:Es)
 | comp (elt:E) (x:String) (it:E)
 | compIf (elt:E) (x:String) (it:E) (c:E)
 | compX (elt:E) (x:String) (it:E)
 | dpairs (d x:String)
 | isiC (a:E) (c:String)
 | isiV (a:E)
 | isiS (a:E)
 | attr (a:E) (x:String)
 | mcall (f m:String) (a:E) (es:Es)
 | make (es:Es)
 | dict
inductive Es where
 | nil
 | cons (e:E) (es:Es)
end
set_option genCtorIdx false in
set_option genInjectivity false in
mutual
inductive S where
 | stuck
 | ex (e:E)
 | asg (x:String) (e:E)
 | asgSub (o i e:E)
 | ite (c:E) (t f:Ss)
 | whl (c:E) (b:Ss)
 | for_ (x:String) (it:E) (b:Ss)
 | ret (e:E)
 | cont
 | pass
 | raise (cls:String)
 | try_ (b:Ss) (c:String) (x:Option String) (h:Ss)
 | asgAttr (o:E) (x:String) (e:E)
inductive Ss where
 | nil
 | cons (s:S) (ss:Ss)
end
noncomputable def E.isOmit:E→Bool
 | .omit=>true
 | _=>false
noncomputable def V.flat:V→Bool
 | .none=>true
 | .bool _=>true
 | .int _=>true
 | .str _=>true
 | _=>false
noncomputable def V.parts:V→Option (List V)
 | .tup vs=>some vs
 | .lst vs=>some vs
 | _=>.none
noncomputable def pl:Nat→V→Bool
 | 0,v=>v.flat
 | n+1,v=>v.flat || v.parts.any fun vs=>vs.all (pl n)
mutual
noncomputable def oQ:V→PyData
 | .none=>.none
 | .bool b=>.bool b
 | .int i=>.int i
 | .str cs=>.str ⟨cs.toArray⟩
 | .tup vs=>.tuple (et vs)
 | .lst vs=>.list (et vs)
 | .rng _ _ _=>.none
 | .loc _=>.none
noncomputable def et:List V→List PyData
 | []=>[]
 | v::vs=>oQ v::et vs
end
noncomputable def eqB (a b:V):Bool:=PyData.eqv (oQ a) (oQ b)
noncomputable def V.num:V→Option Int
 | .int i=>some i
 | _=>.none
noncomputable def V.txt:V→Option (List Nat)
 | .str s=>some s
 | _=>.none
noncomputable def V.tupP:V→Option (List V)
 | .tup vs=>some vs
 | _=>.none
mutual
noncomputable def leV:V→V→Bool
 | .int i=>fun b=>b.num.any fun j=>decide (i≤j)
 | .str s=>fun b=>b.txt.any fun t=>decide (s≤t)
 | .tup vs=>fun b=>b.tupP.any fun us=>Cf vs us
 | .none=>fun _=>false
 | .bool _=>fun _=>false
 | .lst _=>fun _=>false
 | .rng _ _ _=>fun _=>false
 | .loc _=>fun _=>false
noncomputable def Cf:List V→List V→Bool
 | []=>fun _=>true
 | v::vs=>fun us=>us.head?.any fun u=>if eqB v u then Cf vs us.tail else leV v u
end
noncomputable def az (H:List HO):Prop:=∀ c:String,HO.inst c ∉ H
inductive fk (H:List HO):V→List V→Prop
 | lst (vs:List V):fk H (.lst vs) vs
 | loc {i:Nat} {vs:List V}:H[i]?= some (.list vs)→fk H (.loc i) vs
inductive mr (H:List HO):V→V→Prop
 | self (v:V):mr H v v
 | loc {i:Nat} {vs:List V}:H[i]?= some (.list vs)→mr H (.loc i) (.lst vs)
noncomputable def dY (a b c:Int):List Int:=(List.range ((b - a+c - 1) / c).toNat).map fun (k:Nat)=>a+c*(k:Int)
inductive dR:V→List V→Prop
 | rng {a b c:Int}:(0 < c∧c≤1000000)→(-1000000≤a∧a≤1000000)→(-1000000≤b∧b≤1000000)→dR (.rng a b c) ((dY a b c).map .int)
 | lst (vs:List V):dR (.lst vs) vs
 | str (cs:List Nat):dR (.str cs) (cs.map fun c=>.str [c])
noncomputable def jH (vs:List V) (st:St) (Q:V→St→Prop):Prop:=Q (.lst vs) st∨Q (.loc st.H.length) ⟨st.s,st.H++[.list vs]⟩
noncomputable def DK (v:V) (st:St) (Q:V→St→Prop):Prop:=Q v st∨∃ (i:Nat) (vs:List V),v=.loc i∧st.H[i]?= some (.list vs)∧Q (.lst vs) ⟨st.s,st.H.set i .dead⟩
inductive Bin:Operator→V→V→V→Prop
 | add (a b:Int):Bin .Add (.int a) (.int b) (.int (a+b))
 | sub (a b:Int):Bin .Sub (.int a) (.int b) (.int (a - b))
 | mul {a b:Int}:a.natAbs < 2 ^ 63∨b.natAbs < 2 ^ 63→Bin .Mult (.int a) (.int b) (.int (a*b))
 | div {a b:Int}:0 < b→b < 2 ^ 29→Bin .FloorDiv (.int a) (.int b) (.int (a / b))
 | mod {a b:Int}:0 < b→Bin .Mod (.int a) (.int b) (.int (a % b))
 | cat {a b:List Nat}:a.length+b.length≤16000000→Bin .Add (.str a) (.str b) (.str (a++b))
 | rep {c:Nat} {n:Nat}:2≤n→n≤1000→Bin .Mult (.str [c]) (.int n) (.str (List.replicate n c))
inductive IsR:V→V→Bool→Prop
 | nn:IsR .none .none true
 | xn {v:V}:v≠.none→IsR v .none false
inductive InR (H:List HO):V→V→Bool→Prop
 | int {i:Int} {o:V} {ns:List Int}:fk H o (ns.map .int)→InR H (.int i) o (decide (i∈ns))
 | sign (c:Nat) (cs:List Nat):InR H (.str [c]) (.str cs) (decide (c∈cs))
 | txt {s:List Nat} {o:V} {ss:List (List Nat)}:fk H o (ss.map .str)→InR H (.str s) o (decide (s∈ss))
 | keyI {n:Int} {i:Nat} {kvs:List (Int×V)}:H[i]?= some (.dictI kvs)→InR H (.int n) (.loc i) (decide (n∈kvs.map (·.1)))
inductive Cmp (H:List HO):CmpOp→V→V→Bool→Prop
 | lt (a b:Int):Cmp H .Lt (.int a) (.int b) (decide (a < b))
 | le (a b:Int):Cmp H .LtE (.int a) (.int b) (decide (a≤b))
 | gt (a b:Int):Cmp H .Gt (.int a) (.int b) (decide (b < a))
 | ge (a b:Int):Cmp H .GtE (.int a) (.int b) (decide (b≤a))
 | eq {a b a' b':V}:mr H a a'→mr H b b'→pl 6 a'=true→pl 6 b'=true→Cmp H .Eq a b (eqB a' b')
 | ne {a b a' b':V}:mr H a a'→mr H b b'→pl 6 a'=true→pl 6 b'=true→Cmp H .NotEq a b (!eqB a' b')
 | is {a b:V} {r:Bool}:IsR a b r→Cmp H .Is a b r
 | isNot {a b:V} {r:Bool}:IsR a b r→Cmp H .IsNot a b (!r)
 | inn {a b:V} {r:Bool}:InR H a b r→Cmp H .In a b r
 | nin {a b:V} {r:Bool}:InR H a b r→Cmp H .NotIn a b (!r)
inductive Idx (H:List HO):V→V→V→Prop
 | seq {a v:V} {xs:List V} {i:Int}:fk H a xs→0≤i→xs[i.toNat]?= some v→Idx H a (.int i) v
 | tup {v:V} {xs:List V} {i:Int}:0≤i→xs[i.toNat]?= some v→Idx H (.tup xs) (.int i) v
 | str {cs:List Nat} {c:Nat} {i:Int}:0≤i→cs[i.toNat]?= some c→Idx H (.str cs) (.int i) (.str [c])
 | keyS {s:List Nat} {v:V} {i:Nat} {kvs:List (List Nat×V)}:H[i]?= some (.dictS kvs)→kvs.lookup s=some v→Idx H (.loc i) (.str s) v
 | keyI {n:Int} {v:V} {i:Nat} {kvs:List (Int×V)}:H[i]?= some (.dictI kvs)→kvs.lookup n=some v→Idx H (.loc i) (.int n) v
noncomputable def jX {α:Type} [DecidableEq α] (k:α) (v:V) (kvs:List (α×V)):List (α×V):=if k∈kvs.map (·.1) then kvs.map fun p=>if p.1=k then (p.1,v) else p else kvs++[(k,v)]
noncomputable def rJ (x:String) (v:V):List (String×V)→List (String×V)
 | []=>[(x,v)]
 | p::r=>if p.1=x then (p.1,v)::r else p::rJ x v r
noncomputable def aN (sep:List Nat):List (List Nat)→List Nat
 | []=>[]
 | p::ps=>p++ps.flatMap fun q=>sep++q
noncomputable def oU (cs:List Nat):Nat:=cs.foldl (fun a c=>a*10+(c - 48)) 0
noncomputable def oJ (cs:List Nat):Prop:=∀ c∈cs,48≤c∧c≤57
noncomputable def cut (n:Nat) (i:Int):Nat:=if i < 0 then (i+n).toNat else min i.toNat n
noncomputable def slice {α:Type} (xs:List α) (lo hi:Nat):List α:=(xs.take hi).drop lo
noncomputable def bM (n:Nat) (l:Option Int):Nat:=l.elim 0 (cut n)
noncomputable def bQ (n:Nat) (h:Option Int):Nat:=h.elim n (cut n)
noncomputable def wI (v:V) (l h:Option Int) (st:St) (Q:V→St→Prop):Prop:=
 (∃ cs,v=.str cs∧Q (.str (slice cs (bM cs.length l) (bQ cs.length h))) st)∨∃ xs,fk st.H v xs∧jH (slice xs (bM xs.length l) (bQ xs.length h)) st Q
inductive rP (H:List HO):V→String→Prop
 | int (i:Int):rP H (.int i) "int"
 | bool (b:Bool):rP H (.bool b) "bool"
 | str (s:List Nat):rP H (.str s) "str"
 | none:rP H .none "NoneType"
 | tup (vs:List V):rP H (.tup vs) "tuple"
 | seq {v:V} {vs:List V}:fk H v vs→rP H v "list"
noncomputable def rH (X T:String):Bool:=X == T || (X == "bool" && T == "int")
noncomputable def ao (i:Int):List Nat:=(toString i).toList.map Char.toNat
inductive xc (H:List HO):V→Nat→Prop
 | str (s:List Nat):xc H (.str s) s.length
 | tup (vs:List V):xc H (.tup vs) vs.length
 | seq {v:V} {vs:List V}:fk H v vs→xc H v vs.length
 | keyI {i:Nat} {kvs:List (Int×V)}:H[i]?= some (.dictI kvs)→xc H (.loc i) kvs.length
inductive Blt (H:List HO):BN→List V→V→Prop
 | len {v:V} {n:Nat}:xc H v n→Blt H .len [v] (.int n)
 | str {i:Int}:i.natAbs < 10 ^ 100→Blt H .str [.int i] (.str (ao i))
 | int (b:Bool):Blt H .int [.bool b] (.int (if b then 1 else 0))
 | intT {cs:List Nat}:oJ cs→cs≠[]→cs.length≤300→Blt H .int [.str cs] (.int (oU cs))
 | intN {cs:List Nat}:oJ cs→cs≠[]→cs.length≤300→Blt H .int [.str (45::cs)] (.int (-(oU cs:Int)))
 | range1 (b:Int):Blt H .range [.int b] (.rng 0 b 1)
inductive gp:List V→Prop
 | txts {xs:List V}:(∀ v∈xs,∃ s,v=.str s)→gp xs
 | duos {xs:List V}:(∀ v∈xs,∃ i j,v=.tup [.int i,.int j])→gp xs
inductive zp (H:List HO):BN→List V→List V→Prop
 | list {v:V} {xs:List V}:fk H v xs→zp H .list [v] xs
 | listS {i:Nat} {kvs:List (List Nat×V)}:az H→H[i]?= some (.dictS kvs)→zp H .list [.loc i] (kvs.map fun p=>.str p.1)
 | sorted {v:V} {xs ys:List V}:fk H v xs→gp xs→xs.length≤1000000→ys.Perm xs→(ys.Pairwise fun a b=>leV a b=true)→zp H .sorted [v] ys
noncomputable def Cs (f:BN) (vs:List V) (st:St) (Q:V→St→Prop):Prop:=(∃ v,Blt st.H f vs v∧Q v st)∨∃ xs,zp st.H f vs xs∧jH xs st Q
inductive R where
 | ok (v:V)
 | err (c:String)
abbrev Orc:=String→List V→List HO→R→List HO→Prop
inductive Rcv (H:List HO):V→MN→Prop
 | append {v:V} {vs:List V}:fk H v vs→Rcv H v .append
 | pop {v:V} {vs:List V}:fk H v vs→Rcv H v .pop
 | split (s:List Nat):Rcv H (.str s) .split
 | join (s:List Nat):Rcv H (.str s) .join
inductive Mth (H:List HO):MN→V→List V→V→Prop
 | join {sep:List Nat} {v:V} {ss:List (List Nat)}:fk H v (ss.map .str)→(aN sep ss).length+(ss.length+1)*(sep.length+1)≤16000000→Mth H .join (.str sep) [v] (.str (aN sep ss))
inductive Av:MN→V→List V→List V→Prop
 | split {x:List Nat} {c:Nat} {ps:List (List Nat)}:x.length≤16000000→ps≠[]→aN [c] ps=x→(∀ p∈ps,c ∉ p)→Av .split (.str x) [.str [c]] (ps.map .str)
noncomputable def Ce (m:MN) (o:V) (vs:List V) (st:St) (Q:V→St→Prop):Prop:=
 (∃ v,Mth st.H m o vs v∧Q v st)∨
 (∃ (i:Nat) (xs:List V) (v:V),(m=.append∧o=.loc i∧vs=[v])∧st.H[i]?= some (.list xs)∧xs.length < 16000000∧Q .none ⟨st.s,st.H.set i (.list (xs++[v]))⟩)∨
 (∃ (i:Nat) (xs:List V) (v:V),(m=.pop∧o=.loc i∧vs=[])∧st.H[i]?= some (.list (xs++[v]))∧Q v ⟨st.s,st.H.set i (.list xs)⟩)∨
 (∃ xs,Av m o vs xs∧jH xs st Q)∨
 False
noncomputable def eU (f:V→St→(List V→St→Prop)→Prop):List V→List V→St→(List V→St→Prop)→Prop
 | []=>fun acc st K=>K acc st
 | v::r=>fun acc st K=>f v st fun a st'=>eU f r (acc++a) st' K
noncomputable def Bt (f:V→St→(List V→St→Prop)→Prop) (vi:V) (st:St) (Q:V→St→Prop):Prop:=
 (∃ items,dR vi items∧eU f items [] st fun out st=>jH out st Q)∨
 ∃ (i:Nat) (items:List V),vi=.loc i∧st.H[i]?= some (.list items)∧eU f items [] ⟨st.s,st.H.set i .dead⟩ fun out st'=>jH out st' fun v st''=>st''.H[i]?= some .dead∧Q v ⟨st''.s,st''.H.set i (.list items)⟩
noncomputable def wa (Q:Flow→St→Prop) (K:St→Prop) (f:Flow) (st:St):Prop:=(f=.next∧K st)∨(f=.cont∧K st)∨(f=.brk∧Q .next st)∨∃ v,f=.ret v∧Q (.ret v) st
noncomputable def rN (f:V→St→(Flow→St→Prop)→Prop):List V→St→(Flow→St→Prop)→Prop
 | []=>fun st Q=>Q .next st
 | v::r=>fun st Q=>f v st (wa Q fun st'=>rN f r st' Q)
noncomputable def mA (t:St→(Bool→St→Prop)→Prop) (f:St→(Flow→St→Prop)→Prop):Nat→St→(Flow→St→Prop)→Prop
 | 0=>fun _ _=>False
 | n+1=>fun st Q=>t st fun b st'=>(b=true∧f st' (wa Q fun st''=>mA t f n st'' Q))∨(b=false∧Q .next st')
noncomputable def walkW {β:Type} (v:V) (st:St) (loop loopL:List V→St→(β→St→Prop)→Prop) (K:β→St→Prop):Prop:=
 (∃ items,dR v items∧loop items st K)∨
 False
inductive mq (H:List HO):V→String→Prop
 | mk {i:Nat} {c:String}:H[i]?= some (.inst c)→mq H (.loc i) c
noncomputable def bp (h c:String):Bool:=h == c || h == "RoomError"
inductive fc (H:List HO):V→Nat→List (String×V)→Prop
 | mk {i j:Nat} {fs:List (String×V)}:H[i]?= some (.obj j)→H[j]?= some (.attrs fs)→fc H (.loc i) j fs
mutual
noncomputable def low (n:Nat):V→Prop
 | .loc i=>i < n
 | .tup vs=>lows n vs
 | .lst vs=>lows n vs
 | _=>True
noncomputable def lows (n:Nat):List V→Prop
 | []=>True
 | v::vs=>low n v∧lows n vs
end
noncomputable def lowO (n:Nat):HO→Prop
 | .list vs=>lows n vs
 | .obj j=>j < n
 | .attrs fs=>lows n (fs.map (·.2))
 | .dictS kvs=>lows n (kvs.map (·.2))
 | .dictI kvs=>lows n (kvs.map (·.2))
 | _=>True
noncomputable def Ar (n:Nat):Flow→Prop
 | .ret v=>low n v
 | _=>True
open Classical in
noncomputable def St.cut (st:St) (n:Nat):St:=⟨fun y=>(st.s y).bind fun v=>if low n v then some v else .none,st.H.take n⟩
noncomputable def St.exc (st:St) (c:String) (x:Option String):St:=x.elim ⟨st.s,st.H++[.inst c]⟩ fun y=>(St.mk st.s (st.H++[.inst c])).set y (.loc st.H.length)
noncomputable def St.unx (st:St) (x:Option String):St:=x.elim st st.unset
section
variable (Φ:Orc) (G:String→Option V)
mutual
noncomputable def wE:E→St→(V→St→Prop)→(String→St→Prop)→Prop
 | .stuck=>fun _ _ _=>False
 | .omit=>fun _ _ _=>False
 | .none=>fun st Q _=>Q .none st
 | .bool b=>fun st Q _=>Q (.bool b) st
 | .int i=>fun st Q _=>Q (.int i) st
 | .str s=>fun st Q _=>Q (.str s) st
 | .var x=>fun st Q _=>∃ v,st.s x=some v∧DK v st Q
 | .glo x=>fun st Q _=>∃ v,G x=some v∧Q v st
 | .tup es=>fun st Q X=>wEs es st (fun vs st=>Q (.tup vs) st) X
 | .list es=>fun st Q X=>wEs es st (fun vs st=>jH vs st Q) X
 | .bin op a b=>fun st Q X=>wE a st (fun va st=>wE b st (fun vb st=>(∃ v,Bin op va vb v∧Q v st)∨
   ∃ xs ys,op=.Add∧fk st.H va xs∧fk st.H vb ys∧xs.length+ys.length≤16000000∧jH (xs++ys) st Q) X) X
 | .neg a=>fun st Q X=>wE a st (fun v st=>∃ i,v=.int i∧Q (.int (-i)) st) X
 | .not a=>fun st Q X=>wE a st (fun v st=>∃ b,v=.bool b∧Q (.bool (!b)) st) X
 | .and es=>fun st Q X=>wG es st Q X
 | .or es=>fun st Q X=>wOr es st Q X
 | .cmp op a b=>fun st Q X=>wE a st (fun va st=>wE b st (fun vb st=>∃ r,Cmp st.H op va vb r∧Q (.bool r) st) X) X
 | .cmp2 op op' a b c=>fun st Q X=>wE a st (fun va st=>wE b st (fun vb st=>∃ r,Cmp st.H op va vb r∧
   ((r=true∧wE c st (fun vc st=>∃ r',Cmp st.H op' vb vc r'∧Q (.bool r') st) X)∨(r=false∧Q (.bool false) st))) X) X
 | .idx a i=>fun st Q X=>wE a st (fun va st=>wE i st (fun vi st=>∃ v,Idx st.H va vi v∧Q v st) X) X
 | .slc a lo hi=>fun st Q X=>wE a st (fun va st=>
   (lo.isOmit=true∧((hi.isOmit=true∧wI va .none .none st Q)∨(hi.isOmit=false∧wE hi st (fun h st=>∃ j,h=.int j∧wI va .none (some j) st Q) X)))∨
   (lo.isOmit=false∧wE lo st (fun l st=>∃ i,l=.int i∧((hi.isOmit=true∧wI va (some i) .none st Q)∨(hi.isOmit=false∧wE hi st (fun h st=>∃ j,h=.int j∧wI va (some i) (some j) st Q) X))) X)) X
 | .call f es=>fun st Q X=>wEs es st (fun vs st=>(∃ v H',Φ f vs st.H (.ok v) H'∧Q v ⟨st.s,H'⟩)∨∃ c H',Φ f vs st.H (.err c) H'∧X c ⟨st.s,H'⟩) X
 | .blt f es=>fun st Q X=>wEs es st (fun vs st=>Cs f vs st Q) X
 | .isi a t=>fun st Q X=>wE a st (fun v st=>∃ k,rP st.H v k∧Q (.bool (rH k t)) st) X
 | .mth m a es=>fun st Q X=>wE a st (fun o st=>Rcv st.H o m∧wEs es st (fun vs st=>Ce m o vs st Q) X) X
 | .comp elt x it=>fun st Q X=>wE it st (fun vi st=>∃ items,dR vi items∧eU (fun v st₁ K=>wE elt (st₁.set x v) (fun r st'=>K [r] ⟨st₁.s,st'.H⟩) fun _ _=>False) items [] st fun out st=>jH out st Q) X
 | .compIf elt x it c=>fun st Q X=>wE it st (fun vi st=>∃ items,dR vi items∧eU (fun v st₁ K=>wE c (st₁.set x v) (fun b st'=>(b=.bool true∧wE elt st' (fun r st'=>K [r] ⟨st₁.s,st'.H⟩) fun _ _=>False)∨(b=.bool false∧K [] ⟨st₁.s,st'.H⟩)) fun _ _=>False)
    items [] st fun out st=>jH out st Q) X
 | .compX elt x it=>fun st Q X=>wE it st (fun vi st=>Bt (fun v st₁ K=>wE elt (st₁.set x v) (fun r st'=>K [r] ⟨st₁.s,st'.H⟩) fun _ _=>False) vi st Q) X
 | .dpairs d x=>fun st Q _=>∃ (i:Nat) (kvs:List (Int×V)),st.s d=some (.loc i)∧st.H[i]?= some (.dictI kvs)∧az st.H∧d≠x∧(∀ p∈kvs,kvs.lookup p.1=some p.2)∧jH (kvs.map fun p=>.tup [.int p.1,p.2]) st Q
 | .isiC a c=>fun st Q X=>wE a st (fun v st=>∃ c',mq st.H v c'∧Q (.bool (bp c c')) st) X
 | .isiV a=>fun st Q X=>wE a st (fun v st=>∃ c',mq st.H v c'∧Q (.bool true) st) X
 | .isiS a=>fun st Q X=>wE a st (fun v st=>∃ j fs,fc st.H v j fs∧Q (.bool true) st) X
 | .attr a x=>fun st Q X=>wE a st (fun v st=>∃ j fs u,fc st.H v j fs∧fs.lookup x=some u∧Q u st) X
 | .mcall f m a es=>fun st Q X=>wE a st (fun o st=>(∃ j fs,fc st.H o j fs∧fs.lookup m=.none)∧wEs es st (fun vs st=>(∃ v H',Φ f (o::vs) st.H (.ok v) H'∧Q v ⟨st.s,H'⟩)∨∃ c H',Φ f (o::vs) st.H (.err c) H'∧X c ⟨st.s,H'⟩) X) X
 | .make es=>fun st Q X=>wEs es st (fun vs st=>(∃ H',Φ "Store.__init__" (.loc (st.H.length+1)::vs) (st.H++[.attrs []]++[.obj st.H.length]) (.ok .none) H'∧Q (.loc (st.H.length+1)) ⟨st.s,H'⟩)∨
   ∃ c H',Φ "Store.__init__" (.loc (st.H.length+1)::vs) (st.H++[.attrs []]++[.obj st.H.length]) (.err c) H'∧H'.take st.H.length=st.H∧X c st) X
 | .dict=>fun st Q _=>Q (.loc st.H.length) ⟨st.s,st.H++[.dictS []]⟩∨Q (.loc st.H.length) ⟨st.s,st.H++[.dictI []]⟩
noncomputable def wEs:Es→St→(List V→St→Prop)→(String→St→Prop)→Prop
 | .nil=>fun st Q _=>Q [] st
 | .cons e es=>fun st Q X=>wE e st (fun v st=>wEs es st (fun vs st=>Q (v::vs) st) X) X
noncomputable def wG:Es→St→(V→St→Prop)→(String→St→Prop)→Prop
 | .nil=>fun st Q _=>Q (.bool true) st
 | .cons e es=>fun st Q X=>wE e st (fun v st=>∃ b,v=.bool b∧((b=true∧wG es st Q X)∨(b=false∧Q (.bool false) st))) X
noncomputable def wOr:Es→St→(V→St→Prop)→(String→St→Prop)→Prop
 | .nil=>fun st Q _=>Q (.bool false) st
 | .cons e es=>fun st Q X=>wE e st (fun v st=>∃ b,v=.bool b∧((b=true∧Q (.bool true) st)∨(b=false∧wOr es st Q X))) X
end
noncomputable def CP (vo vi v:V) (st:St) (Q:St→Prop):Prop:=
 (∃ (j:Nat) (k:Int) (xs:List V),(vo=.loc j∧vi=.int k)∧st.H[j]?= some (.list xs)∧0≤k∧k.toNat < xs.length∧Q ⟨st.s,st.H.set j (.list (xs.set k.toNat v))⟩)∨
 (∃ (j:Nat) (k:List Nat) (kvs:List (List Nat×V)),(vo=.loc j∧vi=.str k)∧st.H[j]?= some (.dictS kvs)∧kvs.length < 1000000∧Q ⟨st.s,st.H.set j (.dictS (jX k v kvs))⟩)∨
 (∃ (j:Nat) (k:Int) (kvs:List (Int×V)),(vo=.loc j∧vi=.int k)∧st.H[j]?= some (.dictI kvs)∧kvs.length < 1000000∧Q ⟨st.s,st.H.set j (.dictI (jX k v kvs))⟩)∨
 False
noncomputable def wT (e:E) (st:St) (Q:Bool→St→Prop) (X:String→St→Prop):Prop:=wE Φ G e st (fun v st=>∃ b,v=.bool b∧Q b st) X
noncomputable def andThen (K:St→Prop) (Q:Flow→St→Prop) (f:Flow) (st:St):Prop:=(f=.next∧K st)∨(f≠.next∧Q f st)
noncomputable def noX:String→St→Prop:=fun _ _=>False
noncomputable def xN (X:String→St→Prop):String→St→Prop:=fun c st=>az st.H∧X c st
mutual
noncomputable def wS:S→St→(Flow→St→Prop)→(String→St→Prop)→Prop
 | .stuck=>fun _ _ _=>False
 | .ex e=>fun st Q X=>wE Φ G e st (fun _ st=>Q .next st) X
 | .asg x e=>fun st Q X=>wE Φ G e st (fun v st=>Q .next (st.set x v)) X
 | .asgSub o i e=>fun st Q X=>wE Φ G e st (fun v st=>wE Φ G o st (fun vo st=>wE Φ G i st (fun vi st=>CP vo vi v st (Q .next)) X) X) X
 | .asgAttr o x e=>fun st Q X=>wE Φ G e st (fun v st=>wE Φ G o st (fun vo st=>∃ j fs,fc st.H vo j fs∧fs.length < 900∧Q .next ⟨st.s,st.H.set j (.attrs (rJ x v fs))⟩) X) X
 | .ite c t f=>fun st Q X=>wT Φ G c st (fun b st=>(b=true∧wSs t st Q X)∨(b=false∧wSs f st Q X)) X
 | .whl c b=>fun st Q _=>∃ n,mA (fun st Q=>wT Φ G c st Q noX) (fun st Q=>wSs b st Q noX) n st Q
 | .for_ x it b=>fun st Q X=>wE Φ G it st (fun vi st=>walkW vi st (fun items st Q=>rN (fun v st Q=>wSs b (st.set x v) Q (xN X)) items st Q) (fun items st Q=>rN (fun v st Q=>wSs b (st.set x v) Q (xN noX)) items st Q) Q) X
 | .ret e=>fun st Q X=>wE Φ G e st (fun v st=>Q (.ret v) st) X
 | .cont=>fun st Q _=>Q .cont st
 | .pass=>fun st Q _=>Q .next st
 | .raise c=>fun st _ X=>az st.H∧X c st
 | .try_ b c x h=>fun st Q _=>az st.H∧wSs b st Q fun c' st'=>(st'.H.length=st.H.length∧az st'.H∧bp c c'=true)∧
   wSs h (st'.exc c' x) (fun f st₂=>Ar st.H.length f∧st₂.H.take st.H.length=st.H∧Q f ((st₂.unx x).cut st.H.length)) noX
noncomputable def wSs:Ss→St→(Flow→St→Prop)→(String→St→Prop)→Prop
 | .nil=>fun st Q _=>Q .next st
 | .cons s ss=>fun st Q X=>wS s st (andThen (fun st=>wSs ss st Q X) Q) X
end
end
end
noncomputable section
open PySem
noncomputable def bltNames:List String:=["len", "isinstance", "sorted", "max", "min", "str", "int", "range", "list", "bool", "tuple", "ValueError"]
noncomputable def eV (f:String):Value:=if ["len", "isinstance", "sorted", "max", "min"].contains f then .builtin f else .type f
noncomputable def xf:List Value:=[.type "ValueError",.type "Exception",.type "BaseException",.type "object"]
noncomputable def rE (base:Heap) (mg:Str→Option Value) (exs:List String) (c:String) (cls:Addr):Prop:=
 PyProof.Rows.OwnCls (c:Str) cls xf "ValueError.__new__" mg base∧∃ K:PySem.W.Frag,K.In base∧dK K cls=true∧PySem.W.kitOne K (.ref cls) (.type "ValueError")=some true∧
  ∀ c'∈exs,∃ cls',mg (c':Str)=some (.ref cls')∧PySem.W.kitOne K (.ref cls) (.ref cls')=some (bp c' c)∧(bp c' c=true→dB K cls cls'=true)
noncomputable def lS (K:PySem.W.Frag) (D:Addr):Bool:=PySem.W.plainGet K D "__class__" && PySem.W.hasDictIn K D && PySem.W.findIn K (.ref D) "__class__" == some (some (.builtin "object.__class__")) && PySem.W.specialIn K (.builtin "object.__class__") "__get__" == some (some (.builtin "getset_descriptor.__get__")) && PySem.W.takesIn K (.builtin "object.__class__") == some true && PySem.W.mroIn K D (.type "object") == some true && PySem.W.kitOne K (.ref D) (.ref D) == some true
structure wF (base:Heap) (mg:Str→Option Value) (K:PySem.W.Frag) (cls:Addr) (meths:List (String×String)) (ats:List String) (fa:String→Option Addr):Prop where
 inn:K.In base
 glo:mg (("Store" :String):Str)=some (.ref cls)
 makes:PySem.W.makesIn K cls=true
 init: ∃ a,fa "Store.__init__" =some a∧PySem.W.findIn K (.ref cls) "__init__" =some (some (.ref a))∧PySem.W.typeIn K (.ref a)=some (.type "function")
 get:PySem.W.findIn K (.ref cls) "__getattribute__" =some (some (.builtin "object.__getattribute__"))∧PySem.W.findIn K (.ref cls) "__getattr__" =some none
 set:PySem.W.findIn K (.ref cls) "__setattr__" =some (some (.builtin "object.__setattr__"))
 over:PySem.W.plainOver K cls=true
 hasD:PySem.W.hasDictIn K cls=true
 meth: ∀ p∈meths,∃ a,fa p.2=some a∧PySem.W.findIn K (.ref cls) (p.1:Str)=some (some (.ref a))∧PySem.W.typeIn K (.ref a)=some (.type "function")∧PySem.W.keepIn K (.ref a)=true
 keep:PySem.W.keepIn K (.ref cls)=true
 attr: ∀ x∈ats,PySem.W.findIn K (.ref cls) (x:Str)=some none
 isi:lS K cls=true
structure Cx where
 prog:Program
 w:World
 base:Heap
 os:OsState
 mg:Str→Option Value
 mb:Str→Option Value
 g:base.Ns mainGlobals mg
 b:base.Ns builtinsNs mb
 nolimit:base.NoLimit
 glo:String→Option V
 hglo: ∀ (x:String) v,glo x=some v→∃ i t,v=.int i∧mg x=some (.int i t)
 fns:List String
 /-- where the defs stand -/
 fa:String→Option Addr
 hfns: ∀ f∈fns,∃ a o fd,fa f=some a∧mg (f:Str)=some (.ref a)∧base.get? a=some o∧o.data=.func fd
 K:PySem.W.Frag
 cls:Addr
 meths:List (String×String)
 ats:List String
 hcls:meths≠[]→wF base mg K cls meths ats fa
 exs:List String
 hexs: ∀ c∈exs,∃ cls,rE base mg exs c cls
 blts: ∀ f∈bltNames,mg (f:Str)=none∧mb (f:Str)=some (eV f)
abbrev Cx.M (C:Cx):Model:=model C.prog C.w
noncomputable def HO.isLive:HO→Bool
 | .dead=>false
 | .inst _=>false
 | .obj _=>false
 | _=>true
noncomputable def Lv (ρ:List Addr) (H:List HO) (a:Addr):Prop:=∃ (i:Nat) (o:HO),ρ[i]?= some a∧H[i]?= some o∧o.isLive=true
structure Gh where
 h:Addr→Prop
 f:Addr→Prop
 fh: ∀ a,f a→h a
 e:Addr→Prop
 b:Addr→Prop
 bh: ∀ a,b a→h a
noncomputable def Nl (γ:Gh) (ρ:List Addr) (H:List HO) (a:Addr):Prop:=Lv ρ H a∨γ.h a
noncomputable def au:Nat:=16777216
mutual
inductive Rel (h:Heap) (ρ:List Addr) (N:Addr→Prop):V→Value→Prop
 | none:Rel h ρ N .none .none
 | bool (b:Bool):Rel h ρ N (.bool b) (.bool b)
 | int (i:Int) (t:Tok):Rel h ρ N (.int i) (.int i t)
 | str {cs:List Nat} (t:Tok):cs.length≤au→(∀ c∈cs,c < 128)→Rel h ρ N (.str cs) (.str ⟨cs.toArray⟩ t)
 | tup {a:Addr} {vs:List V} {ms:List Value}:h.IsTuple a ms.toArray→¬ N a→vs.length≤au→aI h ρ N vs ms→Rel h ρ N (.tup vs) (.ref a)
 | lst {a:Addr} {vs:List V} {ms:List Value}:h.PlainList a ms.toArray→¬ N a→vs.length≤au→aI h ρ N vs ms→Rel h ρ N (.lst vs) (.ref a)
 | rng {r:Addr} {a b c:Int} {t u v:Tok}:IsRange h r a b c t u v→¬ N r→Rel h ρ N (.rng a b c) (.ref r)
 | loc {i:Nat} {a:Addr}:ρ[i]?= some a→Rel h ρ N (.loc i) (.ref a)
inductive aI (h:Heap) (ρ:List Addr) (N:Addr→Prop):List V→List Value→Prop
 | nil:aI h ρ N [] []
 | cons {v:V} {m:Value} {vs:List V} {ms:List Value}:Rel h ρ N v m→aI h ρ N vs ms→aI h ρ N (v::vs) (m::ms)
end
noncomputable def dU (o o':Obj):Prop:=o'=o∨∃ es n sl,o.data=.dict es n∧o'={ o with slots:=sl }
theorem dU.refl (o:Obj):dU o o:=.inl rfl
theorem dU.trans {a b c:Obj} (x:dU a b) (y:dU b c):dU a c:=by
 rcases x with rfl | ⟨es,n,sl,hd,rfl⟩
 ·exact y
 ·rcases y with rfl | ⟨es',n',sl',hd',rfl⟩
  ·exact .inr ⟨es,n,sl,hd,rfl⟩
  ·exact .inr ⟨es,n,sl',hd,rfl⟩
theorem dU.same {o o':Obj} (x:dU o o') (h: ∀ es n,o.data≠.dict es n):o'=o:=by
 rcases x with e | ⟨es,n,sl,hd,_⟩
 ·exact e
 ·exact absurd hd (h es n)
structure cG (h:Heap) (ρ:List Addr) (N:Addr→Prop) (h':Heap) (ρ':List Addr) (N':Addr→Prop):Prop where
 keep: ∀ a o,h.get? a=some o→¬ N a→∃ o',h'.get? a=some o'∧dU o o'
 live: ∀ a,N' a→N a∨h.get? a=none
 pre: ∀ (i:Nat) a,ρ[i]?= some a→ρ'[i]?= some a
theorem cG.notLive {h h':Heap} {ρ ρ':List Addr} {N N':Addr→Prop} (k:cG h ρ N h' ρ' N') {a:Addr} {o:Obj} (ho:h.get? a=some o) (hn: ¬ N a): ¬ N' a:=fun q=>by
 rcases k.live a q with e | e
 ·exact hn e
 ·rw [ho] at e; cases e
theorem cG.same {h h':Heap} {ρ ρ':List Addr} {N N':Addr→Prop} (k:cG h ρ N h' ρ' N') {a:Addr} {o:Obj} (ho:h.get? a=some o) (hn: ¬ N a) (hd: ∀ es n,o.data≠.dict es n):h'.get? a=some o:=by
 obtain ⟨o',e,q⟩:=k.keep a o ho hn
 rw [e,q.same hd]
theorem cG.gh {γ:Gh} {h h':Heap} {ρ ρ':List Addr} {H H':List HO} (k:cG h ρ (Lv ρ H) h' ρ' (Lv ρ' H')):cG h ρ (Nl γ ρ H) h' ρ' (Nl γ ρ' H'):=
 ⟨fun a o e n=>k.keep a o e fun q=>n (.inl q),fun a q=>by
  rcases q with q | q
  ·exact (k.live a q).imp .inl id
  ·exact .inl (.inr q),k.pre⟩
theorem Rel.both {h:Heap} {ρ:List Addr} {N:Addr→Prop} {P:V→Value→Prop} {L:List V→List Value→Prop} (h1:P .none .none) (h2: ∀ b,P (.bool b) (.bool b)) (h3: ∀ i t,P (.int i) (.int i t))
  (h4: ∀ {cs:List Nat} (t:Tok),cs.length≤au→(∀ c∈cs,c < 128)→P (.str cs) (.str ⟨cs.toArray⟩ t))
  (h5: ∀ {a:Addr} {vs:List V} {ms:List Value},h.IsTuple a ms.toArray→¬ N a→vs.length≤au→L vs ms→P (.tup vs) (.ref a))
  (h6: ∀ {a:Addr} {vs:List V} {ms:List Value},h.PlainList a ms.toArray→¬ N a→vs.length≤au→L vs ms→P (.lst vs) (.ref a))
  (h7: ∀ {r:Addr} {a b c:Int} {t u v:Tok},IsRange h r a b c t u v→¬ N r→P (.rng a b c) (.ref r)) (h8: ∀ {i:Nat} {a:Addr},ρ[i]?= some a→P (.loc i) (.ref a))
  (h9:L [] []) (h10: ∀ {v:V} {m:Value} {vs:List V} {ms:List Value},P v m→L vs ms→L (v::vs) (m::ms)):
  (∀ {v:V} {m:Value},Rel h ρ N v m→P v m)∧∀ {vs:List V} {ms:List Value},aI h ρ N vs ms→L vs ms:=
 ⟨fun r=>Rel.rec (motive_1:=fun v m _=>P v m) (motive_2:=fun vs ms _=>L vs ms) h1 h2 h3 (fun t a b=>h4 t a b) (fun a b c _ x=>h5 a b c x) (fun a b c _ x=>h6 a b c x) (fun a b=>h7 a b) (fun a=>h8 a) h9 (fun _ _ x y=>h10 x y) r,
  fun r=>aI.rec (motive_1:=fun v m _=>P v m) (motive_2:=fun vs ms _=>L vs ms) h1 h2 h3 (fun t a b=>h4 t a b) (fun a b c _ x=>h5 a b c x) (fun a b c _ x=>h6 a b c x) (fun a b=>h7 a b) (fun a=>h8 a) h9 (fun _ _ x y=>h10 x y) r⟩
theorem Rel.kept2 {h h':Heap} {ρ ρ':List Addr} {N N':Addr→Prop} (k:cG h ρ N h' ρ' N'):(∀ {v:V} {m:Value},Rel h ρ N v m→Rel h' ρ' N' v m)∧∀ {vs:List V} {ms:List Value},aI h ρ N vs ms→aI h' ρ' N' vs ms:=
 Rel.both .none .bool .int .str (fun ⟨o,ho,hc,n,hd⟩ hn hl r=>.tup ⟨o,k.same ho hn (fun es n' e=>by rw [hd] at e; cases e),hc,n,hd⟩ (k.notLive ho hn) hl r)
  (fun ⟨n,ho⟩ hn hl r=>.lst ⟨n,k.same ho hn (fun es n' e=>by cases e)⟩ (k.notLive ho hn) hl r) (fun hr hn=>.rng (k.same hr hn (fun es n' e=>by cases e)) (k.notLive hr hn)) (fun e=>.loc (k.pre _ _ e)) .nil .cons
theorem Rel.kept {h h':Heap} {ρ ρ':List Addr} {N N':Addr→Prop} (k:cG h ρ N h' ρ' N') {v:V} {m:Value} (r:Rel h ρ N v m):Rel h' ρ' N' v m:=(Rel.kept2 k).1 r
theorem aI.kept {h h':Heap} {ρ ρ':List Addr} {N N':Addr→Prop} (k:cG h ρ N h' ρ' N') {vs:List V} {ms:List Value} (r:aI h ρ N vs ms):aI h' ρ' N' vs ms:=(Rel.kept2 k).2 r
theorem aI.walk {h:Heap} {ρ:List Addr} {N:Addr→Prop} {L:List V→List Value→Prop} (h1:L [] []) (h2: ∀ {v:V} {m:Value} {vs:List V} {ms:List Value},Rel h ρ N v m→aI h ρ N vs ms→L vs ms→L (v::vs) (m::ms)) {vs:List V} {ms:List Value} (r:aI h ρ N vs ms):L vs ms:=by
 induction vs generalizing ms with
 | nil=>cases r; exact h1
 | cons v vs ih=>cases r with | cons a r=>exact h2 a r (ih r)
theorem aI.length {h:Heap} {ρ:List Addr} {N:Addr→Prop} {vs:List V} {ms:List Value} (r:aI h ρ N vs ms):vs.length=ms.length:=
 r.walk (L:=fun vs ms=>vs.length=ms.length) rfl fun _ _ ih=>congrArg Nat.succ ih
theorem aI.get {h:Heap} {ρ:List Addr} {N:Addr→Prop} {vs:List V} {ms:List Value} (r:aI h ρ N vs ms) {i:Nat} {v:V} (e:vs[i]?= some v): ∃ m,ms[i]?= some m∧Rel h ρ N v m:=
 r.walk (L:=fun vs ms=>∀ (i:Nat) (v:V),vs[i]?= some v→∃ m,ms[i]?= some m∧Rel h ρ N v m) (fun i v e=>by simp at e) (fun a _ ih i v e=>by
  cases i with
  | zero=>simp at e; subst e; exact ⟨_,rfl,a⟩
  | succ i=>exact ih i v e) i v e
theorem aI.get' {h:Heap} {ρ:List Addr} {N:Addr→Prop} {vs:List V} {ms:List Value} (r:aI h ρ N vs ms) {i:Nat} {m:Value} (e:ms[i]?= some m): ∃ v,vs[i]?= some v∧Rel h ρ N v m:=
 r.walk (L:=fun vs ms=>∀ (i:Nat) (m:Value),ms[i]?= some m→∃ v,vs[i]?= some v∧Rel h ρ N v m) (fun i v e=>by simp at e) (fun a _ ih i v e=>by
  cases i with
  | zero=>simp at e; subst e; exact ⟨_,rfl,a⟩
  | succ i=>exact ih i v e) i m e
theorem aI.append {h:Heap} {ρ:List Addr} {N:Addr→Prop} {vs ws:List V} {ms ns:List Value} (r:aI h ρ N vs ms) (q:aI h ρ N ws ns):aI h ρ N (vs++ws) (ms++ns):=
 r.walk (L:=fun vs ms=>aI h ρ N (vs++ws) (ms++ns)) q fun a _ ih=>.cons a ih
theorem aI.take {h:Heap} {ρ:List Addr} {N:Addr→Prop} {vs:List V} {ms:List Value} (r:aI h ρ N vs ms): ∀ n:Nat,aI h ρ N (vs.take n) (ms.take n):=
 r.walk (L:=fun vs ms=>∀ n:Nat,aI h ρ N (vs.take n) (ms.take n)) (fun n=>by rw [List.take_nil,List.take_nil]; exact .nil) fun a _ ih n=>by
  cases n with
  | zero=>exact .nil
  | succ n=>exact .cons a (ih n)
theorem aI.drop {h:Heap} {ρ:List Addr} {N:Addr→Prop} {vs:List V} {ms:List Value} (r:aI h ρ N vs ms): ∀ n:Nat,aI h ρ N (vs.drop n) (ms.drop n):=
 r.walk (L:=fun vs ms=>∀ n:Nat,aI h ρ N (vs.drop n) (ms.drop n)) (fun n=>by rw [List.drop_nil,List.drop_nil]; exact .nil) fun a r ih n=>by
  cases n with
  | zero=>exact .cons a r
  | succ n=>exact ih n
section
variable {h:Heap} {ρ:List Addr} {N:Addr→Prop} {m:Value}
theorem Rel.none_inv (r:Rel h ρ N .none m):m=.none:=by cases r; rfl
theorem Rel.bool_inv {b:Bool} (r:Rel h ρ N (.bool b) m):m=.bool b:=by cases r; rfl
theorem Rel.int_inv {i:Int} (r:Rel h ρ N (.int i) m): ∃ t,m=.int i t:=by cases r; exact ⟨_,rfl⟩
theorem Rel.str_inv {cs:List Nat} (r:Rel h ρ N (.str cs) m): ∃ t,m=.str ⟨cs.toArray⟩ t∧cs.length≤au∧∀ c∈cs,c < 128:=by cases r with | str t a b=>exact ⟨t,rfl,a,b⟩
theorem Rel.tup_inv {vs:List V} (r:Rel h ρ N (.tup vs) m): ∃ a ms,m=.ref a∧h.IsTuple a ms.toArray∧¬ N a∧vs.length≤au∧aI h ρ N vs ms:=by cases r with | tup a b c d=>exact ⟨_,_,rfl,a,b,c,d⟩
theorem Rel.lst_inv {vs:List V} (r:Rel h ρ N (.lst vs) m): ∃ a ms,m=.ref a∧h.PlainList a ms.toArray∧¬ N a∧vs.length≤au∧aI h ρ N vs ms:=by cases r with | lst a b c d=>exact ⟨_,_,rfl,a,b,c,d⟩
theorem Rel.rng_inv {a b c:Int} (r:Rel h ρ N (.rng a b c) m): ∃ x t u v,m=.ref x∧IsRange h x a b c t u v∧¬ N x:=by cases r with | rng p q=>exact ⟨_,_,_,_,rfl,p,q⟩
theorem Rel.loc_inv {i:Nat} (r:Rel h ρ N (.loc i) m): ∃ a,m=.ref a∧ρ[i]?= some a:=by cases r with | loc a=>exact ⟨_,rfl,a⟩
theorem aI.nil_inv {ms:List Value} (r:aI h ρ N [] ms):ms=[]:=by cases r; rfl
theorem aI.cons_inv {v:V} {vs:List V} {ms:List Value} (r:aI h ρ N (v::vs) ms): ∃ m r',ms=m::r'∧Rel h ρ N v m∧aI h ρ N vs r':=by cases r with | cons a r=>exact ⟨_,_,rfl,a,r⟩
end
theorem Rel.low2 {h:Heap} {ρ:List Addr} {N:Addr→Prop}:(∀ {v:V} {m:Value},Rel h ρ N v m→Mine.low ρ.length v)∧∀ {vs:List V} {ms:List Value},aI h ρ N vs ms→Mine.lows ρ.length vs:=
 Rel.both trivial (fun _=>trivial) (fun _ _=>trivial) (fun _ _ _=>trivial) (fun _ _ _ r=>r) (fun _ _ _ r=>r) (fun _ _=>trivial) (fun e=>(List.getElem?_eq_some_iff.mp e).1) trivial fun a r=>⟨a,r⟩
theorem Rel.low {h:Heap} {ρ:List Addr} {N:Addr→Prop} {v:V} {m:Value} (r:Rel h ρ N v m):Mine.low ρ.length v:=Rel.low2.1 r
theorem aI.lows {h:Heap} {ρ:List Addr} {N:Addr→Prop} {vs:List V} {ms:List Value} (r:aI h ρ N vs ms):Mine.lows ρ.length vs:=Rel.low2.2 r
theorem Rel.cut2 {h:Heap} {ρ:List Addr} {N N':Addr→Prop} {n:Nat} (hN: ∀ a,N' a→N a):(∀ {v:V} {m:Value},Rel h ρ N v m→Mine.low n v→Rel h (ρ.take n) N' v m)∧∀ {vs:List V} {ms:List Value},aI h ρ N vs ms→Mine.lows n vs→aI h (ρ.take n) N' vs ms:=
 Rel.both (fun _=>.none) (fun b _=>.bool b) (fun i t _=>.int i t) (fun t a b _=>.str t a b) (fun a b c r l=>.tup a (fun q=>b (hN _ q)) c (r l)) (fun a b c r l=>.lst a (fun q=>b (hN _ q)) c (r l)) (fun a b _=>.rng a fun q=>b (hN _ q))
  (fun {i _} e l=>.loc (by rw [List.getElem?_take,if_pos (show i < n from l)]; exact e)) (fun _=>.nil) fun a r l=>.cons (a l.1) (r l.2)
theorem Rel.cut {h:Heap} {ρ:List Addr} {N N':Addr→Prop} {n:Nat} (hN: ∀ a,N' a→N a) {v:V} {m:Value} (r:Rel h ρ N v m) (l:Mine.low n v):Rel h (ρ.take n) N' v m:=(Rel.cut2 hN).1 r l
theorem aI.cut {h:Heap} {ρ:List Addr} {N N':Addr→Prop} {n:Nat} (hN: ∀ a,N' a→N a) {vs:List V} {ms:List Value} (r:aI h ρ N vs ms) (l:Mine.lows n vs):aI h (ρ.take n) N' vs ms:=(Rel.cut2 hN).2 r l
theorem aG {h h':Heap} {a:Addr} {m:Str→Option Value} (hn:h.Ns a m) (e: ∀ o,h.get? a=some o→∃ o',h'.get? a=some o'∧dU o o'):h'.Ns a m:=by
 obtain ⟨o,es,ep,ho,hd,hk,hf⟩:=hn
 obtain ⟨o',ho',q⟩:=e o ho
 rcases q with rfl | ⟨_,_,sl,_,rfl⟩
 ·exact ⟨_,es,ep,ho',hd,hk,hf⟩
 ·exact ⟨_,es,ep,ho',hd,hk,hf⟩
theorem bT {h:Heap} {a:Addr} {m:Str→Option Value} (hn:h.Ns a m): ∃ o,h.get? a=some o:=by obtain ⟨o,es,ep,ho,hd,hk,hf⟩:=hn; exact ⟨o,ho⟩
theorem dS {h:Heap} {a:Addr} {m:Str→Option Value} (hn:h.Ns a m): ∃ o es n,h.get? a=some o∧o.data=.dict es n:=by obtain ⟨o,es,ep,ho,hd,hk,hf⟩:=hn; exact ⟨o,_,_,ho,hd⟩
theorem dp {prog:Program} {w:World} {K:Type} [DecidableEq K] {knd:KeyKind prog w K} {kvs:List (K×Value)} {h h':Heap} {a:Addr} (x:h.DictOf knd a kvs) (e: ∀ o,h.get? a=some o→h'.get? a=some o):h'.DictOf knd a kvs:=by
 obtain ⟨o,ho,r⟩:=Heap.dictOf_iff.mp x
 exact Heap.dictOf_iff.mpr ⟨o,e o ho,r⟩
inductive ik (h:Heap) (ρ:List Addr) (N:Addr→Prop):List (String×V)→List DictEntry→Prop
 | nil:ik h ρ N [] []
 | cons {x:String} {v:V} {fs:List (String×V)} {hs:Int} {t:Tok} {mv:Value} {es:List DictEntry}:Rel h ρ N v mv→ik h ρ N fs es→ik h ρ N ((x,v)::fs) (⟨hs,.str (x:Str) t,mv⟩::es)
inductive fj (h:Heap) (ρ:List Addr) (N:Addr→Prop) {α K:Type} (f:α→K):List (α×V)→List (K×Value)→Prop
 | nil:fj h ρ N f [] []
 | cons {k:α} {v:V} {kvs:List (α×V)} {mv:Value} {ms:List (K×Value)}:Rel h ρ N v mv→fj h ρ N f kvs ms→fj h ρ N f ((k,v)::kvs) ((f k,mv)::ms)
abbrev sOf (s:List Nat):Str:=⟨s.toArray⟩
section
variable {h h':Heap} {ρ ρ':List Addr} {N N':Addr→Prop} {fs:List (String×V)} {es:List DictEntry} {α K:Type} {f:α→K} {kvs:List (α×V)} {ms:List (K×Value)} {n:Nat}
theorem ik.map (r:ik h ρ N fs es) (g: ∀ v m,Rel h ρ N v m→Rel h' ρ' N' v m):ik h' ρ' N' fs es:=by
 induction r with
 | nil=>exact .nil
 | cons a _ ih=>exact .cons (g _ _ a) ih
theorem ik.lows (r:ik h ρ N fs es):Mine.lows ρ.length (fs.map (·.2)):=by
 induction r with
 | nil=>trivial
 | cons a _ ih=>exact ⟨a.low,ih⟩
theorem ik.cut (hN: ∀ a,N' a→N a) (r:ik h ρ N fs es) (l:Mine.lows n (fs.map (·.2))):ik h (ρ.take n) N' fs es:=by
 induction r with
 | nil=>exact .nil
 | cons a _ ih=>exact .cons (a.cut hN l.1) (ih l.2)
theorem ik.length (r:ik h ρ N fs es):fs.length=es.length:=by
 induction r with
 | nil=>rfl
 | cons _ _ ih=>exact congrArg Nat.succ ih
theorem fj.map (r:fj h ρ N f kvs ms) (g: ∀ v m,Rel h ρ N v m→Rel h' ρ' N' v m):fj h' ρ' N' f kvs ms:=by
 induction r with
 | nil=>exact .nil
 | cons a _ ih=>exact .cons (g _ _ a) ih
theorem fj.lows (r:fj h ρ N f kvs ms):Mine.lows ρ.length (kvs.map (·.2)):=by
 induction r with
 | nil=>trivial
 | cons a _ ih=>exact ⟨a.low,ih⟩
theorem fj.cut (hN: ∀ a,N' a→N a) (r:fj h ρ N f kvs ms) (l:Mine.lows n (kvs.map (·.2))):fj h (ρ.take n) N' f kvs ms:=by
 induction r with
 | nil=>exact .nil
 | cons a _ ih=>exact .cons (a.cut hN l.1) (ih l.2)
theorem fj.length (r:fj h ρ N f kvs ms):kvs.length=ms.length:=by
 induction r with
 | nil=>rfl
 | cons _ _ ih=>exact congrArg Nat.succ ih
end
noncomputable def rO (C:Cx) (h:Heap) (ρ:List Addr) (N:Addr→Prop):HO→Addr→Prop
 | .list vs,a=>∃ ms:List Value,h.PlainList a ms.toArray∧aI h ρ N vs ms∧vs.length≤au
 | .inst c,a=>c∈C.exs∧∃ o cls vs,h.get? a=some o∧C.mg c=some (.ref cls)∧o.cls=.ref cls∧o.dict=none∧o.data=.fields vs
 | .obj j,a=>C.meths≠[]∧∃ d,ρ[j]?= some d∧h.get? a=some (PySem.W.instObj C.cls d)
 | .attrs fs,a=>∃ es n,h.get? a=some (PySem.W.dictOf es n)∧ik h ρ N fs es
 | .dictS kvs,a=>∃ ms,h.DictOf (strKind C.prog C.w) a ms∧fj h ρ N sOf kvs ms∧(kvs.length≤au∧a≠sysModules)∧∀ p∈kvs,p.1.length≤au∧∀ c∈p.1,c < 128
 | .dictI kvs,a=>∃ ms,h.DictOf (intKind C.prog C.w) a ms∧fj h ρ N id kvs ms∧kvs.length≤au∧a≠sysModules
 | .dead,_=>True
section
variable {γ:Gh}
structure Inv (C:Cx) (γ:Gh) (ρ:List Addr) (H:List HO) (s:Shared):Prop where
 base: ∀ b o,C.base.get? b=some o→s.heap.get? b=some o
 len:ρ.length=H.length
 nodup:ρ.Nodup
 fresh: ∀ a∈ρ,C.base.get? a=none
 there: ∀ a∈ρ,∃ o,s.heap.get? a=some o
 obj: ∀ (i:Nat) a o,ρ[i]?= some a→H[i]?= some o→rO C s.heap ρ (Nl γ ρ H) o a
 apart: ∀ a∈ρ,γ.h a→γ.b a
 bor: ∀ (i:Nat) a o,ρ[i]?= some a→γ.b a→H[i]?= some o→o=.dead
 held: ∀ a,γ.h a→∃ o,s.heap.get? a=some o
 off: ∀ a,γ.h a→C.base.get? a=none
 frm: ∀ a,γ.f a→∃ o es n,s.heap.get? a=some o∧o.data=.dict es n
 hdl: ∀ a,γ.e a→(∃ o vs,s.heap.get? a=some o∧o.data=.fields vs∧vs[2]?= some .none)∧¬ Lv ρ H a∧¬ γ.h a
 hq:az H→∀ a,¬ γ.e a
 gens:s.gens= #[]
 os:s.os=C.os
theorem ee {H:List HO} {i:Nat} {o o':HO} (hH:H[i]?= some o) (ho: ∀ c,o≠.inst c) (z:az (H.set i o')):az H:=fun c h=>by
 obtain ⟨j,hj⟩:=List.mem_iff_getElem?.mp h
 by_cases e:i=j
 ·subst e; rw [hH] at hj; exact ho c (Option.some.inj hj)
 ·exact z c (List.mem_iff_getElem?.mpr ⟨j,by rw [List.getElem?_set_ne e]; exact hj⟩)
theorem gO {H:List HO} {o:HO} (z:az (H++[o])):az H:=fun c h=>z c (List.mem_append.mpr (.inl h))
theorem vP {o:HO} (h:o.isLive=true) (c:String):o≠.inst c:=fun e=>by rw [e] at h; cases h
structure Stp (ρ:List Addr) (H:List HO) (s:Shared) (ρ':List Addr) (H':List HO) (s':Shared):Prop where
 kep:cG s.heap ρ (Lv ρ H) s'.heap ρ' (Lv ρ' H')
theorem Stp.kept {ρ ρ':List Addr} {H H':List HO} {s s':Shared} (S:Stp ρ H s ρ' H' s'):cG s.heap ρ (Nl γ ρ H) s'.heap ρ' (Nl γ ρ' H'):=S.kep.gh
theorem Stp.refl (ρ:List Addr) (H:List HO) (s:Shared):Stp ρ H s ρ H s:=⟨⟨fun _ o e _=>⟨o,e,.refl o⟩,fun _ e=>.inl e,fun _ _ e=>e⟩⟩
theorem Stp.trans {ρ ρ' ρ'':List Addr} {H H' H'':List HO} {s s' s'':Shared} (x:Stp ρ H s ρ' H' s') (y:Stp ρ' H' s' ρ'' H'' s''):Stp ρ H s ρ'' H'' s'':=by
 refine ⟨⟨fun a o e n=>?_,fun a e=>?_,fun i a e=>y.kep.pre _ _ (x.kep.pre _ _ e)⟩⟩
 ·obtain ⟨o',e',q⟩:=x.kep.keep a o e n
  obtain ⟨o'',e'',q'⟩:=y.kep.keep a o' e' (x.kep.notLive e n)
  exact ⟨o'',e'',q.trans q'⟩
 ·rcases y.kep.live a e with q | q
  ·exact x.kep.live a q
  ·by_cases hL:Lv ρ H a
   ·exact .inl hL
   ·right
    cases hg:s.heap.get? a with
    | none=>rfl
    | some o=>
     obtain ⟨o',e',_⟩:=x.kep.keep a o hg hL
     rw [q] at e'; cases e'
theorem Inv.hdl' {C:Cx} {ρ ρ':List Addr} {H H':List HO} {s s':Shared} (I:Inv C γ ρ H s) (K:cG s.heap ρ (Lv ρ H) s'.heap ρ' (Lv ρ' H')) (a:Addr) (q:γ.e a):(∃ o vs,s'.heap.get? a=some o∧o.data=.fields vs∧vs[2]?= some .none)∧¬ Lv ρ' H' a∧¬ γ.h a:=
 let ⟨⟨o,vs,e,d,v⟩,l,nh⟩:=I.hdl a q
 ⟨⟨o,vs,K.same e l (fun es n z=>by rw [d] at z; cases z),d,v⟩,K.notLive e l,nh⟩
theorem Stp.of_keep {ρ:List Addr} {H:List HO} {s s':Shared} (k: ∀ a o,s.heap.get? a=some o→s'.heap.get? a=some o):Stp ρ H s ρ H s':=
 ⟨⟨fun _ o e _=>⟨o,k _ _ e,.refl o⟩,fun _ e=>.inl e,fun _ _ e=>e⟩⟩
theorem rO.kept {C:Cx} {h h':Heap} {ρ ρ':List Addr} {N N':Addr→Prop} (k:cG h ρ N h' ρ' N') {o:HO} {a:Addr} (r:rO C h ρ N o a) (e: ∀ x,h.get? a=some x→h'.get? a=some x):rO C h' ρ' N' o a:=by
 cases o with
 | list vs=>
  obtain ⟨ms,⟨n,hx⟩,r2,r3⟩:=r
  exact ⟨ms,⟨n,e _ hx⟩,r2.kept k,r3⟩
 | inst _=>exact ⟨r.1,let ⟨o,cls,vs,h1,h2⟩:=r.2; ⟨o,cls,vs,e _ h1,h2⟩⟩
 | obj j=>exact ⟨r.1,let ⟨d,h1,h2⟩:=r.2; ⟨d,k.pre _ _ h1,e _ h2⟩⟩
 | attrs fs=>
  obtain ⟨es,n,h1,h2⟩:=r
  exact ⟨es,n,e _ h1,h2.map fun _ _ q=>q.kept k⟩
 | dictS kvs=>
  obtain ⟨ms,hd,r2,r3⟩:=r
  exact ⟨ms,dp hd e,r2.map fun _ _ q=>q.kept k,r3⟩
 | dictI kvs=>
  obtain ⟨ms,hd,r2,r3⟩:=r
  exact ⟨ms,dp hd e,r2.map fun _ _ q=>q.kept k,r3⟩
 | dead=>trivial
theorem Inv.of_keep {C:Cx} {ρ:List Addr} {H:List HO} {s s':Shared} (I:Inv C γ ρ H s) (k: ∀ a o,s.heap.get? a=some o→s'.heap.get? a=some o)
  (hg:s'.gens=s.gens) (ho:s'.os=s.os):Inv C γ ρ H s':=
 ⟨fun b o e=>k _ _ (I.base b o e),I.len,I.nodup,I.fresh,fun a e=>let ⟨o,q⟩:=I.there a e; ⟨o,k _ _ q⟩,fun i a o e1 e2=>(I.obj i a o e1 e2).kept (Stp.of_keep k).kept fun x hx=>k _ _ hx,I.apart,I.bor,fun a q=>let ⟨o,e⟩:=I.held a q; ⟨o,k _ _ e⟩,I.off,(fun a q=>let ⟨o,es,n,e,d⟩:=I.frm a q; ⟨o,es,n,k _ _ e,d⟩),(fun a q=>let ⟨⟨o,vs,e,d⟩,q2⟩:=I.hdl a q; ⟨⟨o,vs,k _ _ e,d⟩,q2⟩),I.hq,hg.trans I.gens,ho.trans I.os⟩
structure Fra (γ:Gh) (env:Env) (st:St) (ρ:List Addr) (s:Shared):Prop where
 kind:env.scope.kind=.function
 glob:env.globals=mainGlobals
 blt:env.builtins=builtinsNs
 nl: ¬ Lv ρ st.H env.locals
 own:γ.h env.locals
 ns: ∃ m,s.heap.Ns env.locals m∧∀ (x:String) v,env.kindOf x=some .local→(x:Str)≠(".0" :Str)→st.s x=some v→∃ mv,m x=some mv∧Rel s.heap ρ (Nl γ ρ st.H) v mv
 cell: ∀ n:Str,(env.kindOf n=some .cell∨env.kindOf n=some .free)→∃ c ov,env.cells.lookup n=some c∧(¬ Lv ρ st.H c∧γ.h c)∧s.heap.IsCell c ov∧
  ∀ (x:String),(x:Str)=n→∀ v,st.s x=some v→∃ mv,ov=some mv∧Rel s.heap ρ (Nl γ ρ st.H) v mv
 apart: ∀ (n n':Str) c,env.cells.lookup n=some c→env.cells.lookup n'=some c→n=n'
 nb: ¬ γ.b env.locals
 nbc: ∀ (n:Str) c,env.cells.lookup n=some c→γ.h c∧¬ γ.b c
theorem Fra.step {env:Env} {st st':St} {ρ ρ':List Addr} {s s':Shared} (F:Fra γ env st ρ s) (S:Stp ρ st.H s ρ' st'.H s') (e:st'.s=st.s):Fra γ env st' ρ' s':=by
 obtain ⟨m,hm,hv⟩:=F.ns
 obtain ⟨oL,hoL⟩:=bT hm
 refine ⟨F.kind,F.glob,F.blt,S.kep.notLive hoL F.nl,F.own,⟨m,aG hm fun o ho=>S.kep.keep _ o ho F.nl,fun x v k kz q=>?_⟩,fun x k=>?_,F.apart,F.nb,F.nbc⟩
 ·obtain ⟨mv,e1,e2⟩:=hv x v k kz (e▸q)
  exact ⟨mv,e1,e2.kept S.kept⟩
 ·obtain ⟨c,ov,h1,h2,⟨oc,hoc,hdc⟩,h4⟩:=F.cell x k
  refine ⟨c,ov,h1,⟨S.kep.notLive hoc h2.1,h2.2⟩,⟨oc,S.kep.same hoc h2.1 (fun es n q=>by rw [hdc] at q; cases q),hdc⟩,fun y hy v q=>?_⟩
  obtain ⟨mv,e1,e2⟩:=h4 y hy v (e▸q)
  exact ⟨mv,e1,e2.kept S.kept⟩
structure bK (k:Nat) (A:Around) (γ:Gh):Prop where
 depth:A.depth+k < 900
 units:A.units+4*k < 9000
 hdl: ∀ v,A.handled=some v→∃ e,v=.ref e∧γ.e e
 frs: ∃ l,A.frames=some l∧∀ env∈l,env.scope.kind≠.module∧∃ L,env.frame=some L∧γ.f L
theorem bK.mono {k j:Nat} {A:Around} (r:bK k A γ) (h:j≤k):bK j A γ:=⟨by have:=r.depth; exact lin [_,j,k] [(1,.v 1,.v 2),(1,.a (.a (.v 0) (.v 2)) (.n 1),.n 900)] 1 (.a (.a (.v 0) (.v 1)) (.n 1)) (.n 900) rfl h this,by have:=r.units; exact lin [_,j,k] [(4,.v 1,.v 2),(1,.a (.a (.v 0) (.m 4 (.v 2))) (.n 1),.n 9000)] 1 (.a (.a (.v 0) (.m 4 (.v 1))) (.n 1)) (.n 9000) rfl h this,r.hdl,r.frs⟩
theorem bK.handled {k:Nat} {A:Around} {C:Cx} {ρ:List Addr} {H:List HO} {s:Shared} (r:bK k A γ) (I:Inv C γ ρ H s) (h:az H):A.handled=none:=by
 cases e:A.handled with
 | none=>rfl
 | some v=>obtain ⟨a,_,q⟩:=r.hdl v e; exact absurd q (I.hq h a)
theorem bK.more {k:Nat} {A:Around} {γ':Gh} (r:bK k A γ) (h: ∀ a,γ.f a→γ'.f a) (he: ∀ a,γ.e a→γ'.e a):bK k A γ':=
 ⟨r.depth,r.units,(fun v q=>let ⟨e,h1,h2⟩:=r.hdl v q; ⟨e,h1,he e h2⟩),let ⟨l,h1,h2⟩:=r.frs; ⟨l,h1,fun env he=>let ⟨a,L,b,c⟩:=h2 env he; ⟨a,L,b,h L c⟩⟩⟩
theorem bK.deeper {k:Nat} {A:Around} {γ':Gh} (r:bK (k+1) A γ) (env:Env) (hf: ∀ a,γ.f a→γ'.f a) (he: ∀ a,γ.e a→γ'.e a) (hk:env.scope.kind≠.module) {L:Addr} (hL:env.frame=some L) (hfL:γ'.f L):bK k (A.deeper env) γ':=
 ⟨by have:=r.depth; show A.depth+1+k < 900; exact lin [_,k] [(1,.a (.a (.v 0) (.a (.v 1) (.n 1))) (.n 1),.n 900)] 1 (.a (.a (.a (.v 0) (.n 1)) (.v 1)) (.n 1)) (.n 900) rfl this,by have:=r.units; show A.units+3+4*k < 9000; exact lin [_,k] [(1,.a (.a (.v 0) (.m 4 (.a (.v 1) (.n 1)))) (.n 1),.n 9000)] 1 (.a (.a (.a (.v 0) (.n 3)) (.m 4 (.v 1))) (.n 1)) (.n 9000) rfl this,(fun v q=>let ⟨e,h1,h2⟩:=r.hdl v q; ⟨e,h1,he e h2⟩),by
  obtain ⟨l,h1,h2⟩:=r.frs
  refine ⟨env::l,Around.frames_deeper h1,fun e he=>?_⟩
  rcases List.mem_cons.mp he with rfl | he
  ·exact ⟨hk,L,hL,hfL⟩
  ·obtain ⟨a,L,b,c⟩:=h2 e he
   exact ⟨a,L,b,hf L c⟩⟩
noncomputable def fF (h:Heap) (e T cls:Addr) (fl:Value):Prop:=∃ oe vs oT ts,h.get? e=some oe∧(oe.cls=.ref cls∧oe.dict=none∧oe.data=.fields vs)∧(vs[1]?= some (.ref T)∧vs[2]?= some .none)∧T≠e∧h.get? T=some oT∧oT.cls=.type "traceback" ∧oT.data=.fields ts∧ts[3]?= some fl
noncomputable def lc (C:Cx) (b:Heap) (s':Shared) (ev:Value) (c:String):Prop:=∃ e cls T,ev=.ref e∧(c∈C.exs∧C.mg c=some (.ref cls))∧b.get? e=none∧b.get? T=none∧fF s'.heap e T cls .none
noncomputable def sX (C:Cx) (b:Heap) (s':Shared) (ev:Value) (c:String):Prop:=∃ e cls t,ev=.ref e∧(c∈C.exs∧C.mg c=some (.ref cls))∧b.get? e=none∧s'.heap.get? e=some { cls:=.ref cls,data:=.fields #[.ref t,.none,.none,.none,.bool false,.none]}
noncomputable def rD (C:Cx) (env:Env) (b:Heap) (s':Shared) (ev:Value) (c:String):Prop:=∃ e cls T L,ev=.ref e∧(c∈C.exs∧C.mg c=some (.ref cls))∧b.get? e=none∧b.get? T=none∧env.frame=some L∧fF s'.heap e T cls (rawInt L)
noncomputable def wD (C:Cx) (env:Env) (b:Heap) (s':Shared) (ev:Value) (c:String):Prop:=(lc C b s' ev c∨sX C b s' ev c)∨rD C env b s' ev c
theorem lc.back {C:Cx} {b b':Heap} {s':Shared} {ev:Value} {c:String} (h: ∀ a,b'.get? a=none→b.get? a=none) (x:lc C b' s' ev c):lc C b s' ev c:=by
 obtain ⟨e,cls,T,h1,h2,h3,h4,h5⟩:=x
 exact ⟨e,cls,T,h1,h2,h e h3,h T h4,h5⟩
theorem sX.back {C:Cx} {b b':Heap} {s':Shared} {ev:Value} {c:String} (h: ∀ a,b'.get? a=none→b.get? a=none) (x:sX C b' s' ev c):sX C b s' ev c:=by
 obtain ⟨e,cls,t,h1,h2,h3,h4⟩:=x
 exact ⟨e,cls,t,h1,h2,h e h3,h4⟩
theorem rD.back {C:Cx} {env:Env} {b b':Heap} {s':Shared} {ev:Value} {c:String} (h: ∀ a,b'.get? a=none→b.get? a=none) (x:rD C env b' s' ev c):rD C env b s' ev c:=by
 obtain ⟨e,cls,T,L,h1,h2,h3,h4,h5⟩:=x
 exact ⟨e,cls,T,L,h1,h2,h _ h3,h _ h4,h5⟩
theorem wD.back {C:Cx} {env:Env} {b b':Heap} {s':Shared} {ev:Value} {c:String} (h: ∀ a,b'.get? a=none→b.get? a=none) (x:wD C env b' s' ev c):wD C env b s' ev c:=x.imp (fun x=>x.imp (·.back h) (·.back h)) (·.back h)
theorem Stp.back {C:Cx} {ρ ρ₁:List Addr} {H H₁:List HO} {s s₁:Shared} (S:Stp ρ H s ρ₁ H₁ s₁) (I:Inv C γ ρ₁ H₁ s₁) (a:Addr) (h:s₁.heap.get? a=none):s.heap.get? a=none:=by
 cases e:s.heap.get? a with
 | none=>rfl
 | some o=>
  exfalso
  by_cases q:Lv ρ H a
  ·obtain ⟨i,_,q1,_⟩:=q
   obtain ⟨o',e'⟩:=I.there a (List.mem_of_getElem? (S.kep.pre i a q1))
   rw [h] at e'; cases e'
  ·obtain ⟨o',e',_⟩:=S.kep.keep a o e q
   rw [h] at e'; cases e'
noncomputable def eh (C:Cx) (γ:Gh) (ρ:List Addr) (st:St) (s:Shared) (Q:V→St→Prop) (mv:Value) (s':Shared):Prop:=
 ∃ v st' ρ',Q v st'∧st'.s=st.s∧Rel s'.heap ρ' (Nl γ ρ' st'.H) v mv∧Inv C γ ρ' st'.H s'∧Stp ρ st.H s ρ' st'.H s'
noncomputable def bj (C:Cx) (γ:Gh) (ρ:List Addr) (st:St) (s:Shared) (X:String→St→Prop) (ev:Value) (s':Shared):Prop:=
 ∃ c st' ρ',X c st'∧st'.s=st.s∧lc C s.heap s' ev c∧Inv C γ ρ' st'.H s'∧Stp ρ st.H s ρ' st'.H s'
theorem bj.step {C:Cx} {ρ ρ₁:List Addr} {st st₁:St} {s s₁:Shared} {X:String→St→Prop} {ev:Value} {s':Shared} (I:Inv C γ ρ₁ st₁.H s₁) (S:Stp ρ st.H s ρ₁ st₁.H s₁) (e:st₁.s=st.s) (p:bj C γ ρ₁ st₁ s₁ X ev s'):bj C γ ρ st s X ev s':=by
 obtain ⟨c,st',ρ',h1,h2,h3,h4,h5⟩:=p
 exact ⟨c,st',ρ',h1,h2.trans e,h3.back (S.back I),h4,S.trans h5⟩
theorem eh.step {C:Cx} {ρ ρ₁:List Addr} {st st₁:St} {s s₁:Shared} {Q:V→St→Prop} {mv:Value} {s':Shared} (S:Stp ρ st.H s ρ₁ st₁.H s₁) (e:st₁.s=st.s) (p:eh C γ ρ₁ st₁ s₁ Q mv s'):eh C γ ρ st s Q mv s':=by
 obtain ⟨v,st',ρ',h1,h2,h3,h4,h5⟩:=p
 exact ⟨v,st',ρ',h1,h2.trans e,h3,h4,S.trans h5⟩
noncomputable def Calls (C:Cx) (k:Nat):Orc:=fun f args H r H'=>∀ (A:Around) (s:Shared) (γ:Gh) (ρ:List Addr) (ms:List Value) (fa:Addr),bK (2*k) A γ→Inv C γ ρ H s→aI s.heap ρ (Nl γ ρ H) args ms→C.fa f=some fa→
 codeAny C.M A (.call (.ref fa) ⟨ms,[]⟩) (fun res s'=>match r,res with
  | .ok v,.ok (.ret mv)=>∃ ρ',Rel s'.heap ρ' (Nl γ ρ' H') v mv∧Inv C γ ρ' H' s'∧Stp ρ H s ρ' H' s'
  | .err c,.error ev=>∃ ρ',lc C s.heap s' ev c∧Inv C γ ρ' H' s'∧Stp ρ H s ρ' H' s'
  | _,_=>False) s
theorem Calls.mono {C:Cx} {k j:Nat} {f:String} {args:List V} {H H':List HO} {r:R} (x:Calls C k f args H r H') (h:k≤j):Calls C j f args H r H':=
 fun A s γ ρ ms fa hr=>x A s γ ρ ms fa (hr.mono (Nat.mul_le_mul_left 2 h))
end
end
noncomputable section
open PySem
theorem cI {α β:Type} [BEq α] {p:α×β} {r:List (α×β)} {k:α}:(p::r).lookup k=if (k == p.1)=true then some p.2 else r.lookup k:=by
 rw [List.lookup]; cases k == p.1<;>rfl
section
variable {h:Heap} {ρ:List Addr} {N:Addr→Prop} {α K:Type} [BEq α] [LawfulBEq α] [DecidableEq α] [DecidableEq K] {f:α→K} {kvs:List (α×V)} {ms:List (K×Value)}
theorem fG {K:Type} [DecidableEq K] {p:K×Value} {r:List (K×Value)} {k:K}:valueAt (p::r) k=if p.1=k then some p.2 else valueAt r k:=by
 rw [valueAt,List.find?_cons]
 by_cases q:p.1=k
 ·rw [if_pos q,decide_eq_true q]; rfl
 ·rw [if_neg q,decide_eq_false q]; rfl
theorem fj.get (hf: ∀ a b,f a=f b→a=b) (r:fj h ρ N f kvs ms) (k:α):match kvs.lookup k with
  | some v=>∃ mv,valueAt ms (f k)=some mv∧Rel h ρ N v mv
  | none=>valueAt ms (f k)=none:=by
 induction r with
 | nil=>rfl
 | @cons k' v kvs mv ms a _ ih=>
  rw [cI,fG]
  by_cases q:k=k'
  ·subst q
   rw [if_pos (beq_self_eq_true k),if_pos rfl]
   exact ⟨mv,rfl,a⟩
  ·rw [if_neg (fun z=>q (eq_of_beq z)),if_neg (fun z=>q (hf _ _ z.symm))]
   exact ih
theorem fj.has (hf: ∀ a b,f a=f b→a=b) (r:fj h ρ N f kvs ms) (k:α):(valueAt ms (f k)).isSome=decide (k∈kvs.map (·.1)):=by
 induction r with
 | nil=>rfl
 | @cons k' v kvs mv ms a _ ih=>
  rw [fG,Bool.eq_iff_iff,decide_eq_true_eq,List.map_cons,List.mem_cons]
  by_cases q:k=k'
  ·subst q; rw [if_pos rfl]; exact ⟨fun _=>.inl rfl,fun _=>rfl⟩
  ·rw [if_neg (fun z=>q (hf _ _ z.symm)),ih,decide_eq_true_eq]
   exact ⟨.inr,fun z=>z.resolve_left q⟩
theorem fj.store (hf: ∀ a b,f a=f b→a=b) (r:fj h ρ N f kvs ms) (k:α) {v:V} {mv:Value} (rv:Rel h ρ N v mv):fj h ρ N f (jX k v kvs) (stored ms (f k) mv):=by
 have key: ∀ {kvs:List (α×V)} {ms:List (K×Value)},fj h ρ N f kvs ms→fj h ρ N f (kvs.map fun p=>if p.1=k then (p.1,v) else p) (ms.map fun p=>if p.1=f k then (p.1,mv) else p):=fun r=>by
  induction r with
  | nil=>exact .nil
  | @cons k' u kvs mu ms a _ ih=>
   rw [List.map_cons,List.map_cons]
   by_cases q:k'=k
   ·rw [if_pos q,if_pos (congrArg f q)]; exact .cons rv ih
   ·rw [if_neg q,if_neg (fun z=>q (hf _ _ z))]; exact .cons a ih
 have app: ∀ {kvs:List (α×V)} {ms:List (K×Value)},fj h ρ N f kvs ms→fj h ρ N f (kvs++[(k,v)]) (ms++[(f k,mv)]):=fun r=>by
  induction r with
  | nil=>exact .cons rv .nil
  | cons a _ ih=>exact .cons a ih
 have any:(ms.any fun p=>decide (p.1=f k))=decide (k∈kvs.map (·.1)):=by
  rw [← r.has hf k,valueAt,Option.isSome_map,Bool.eq_iff_iff,List.find?_isSome,List.any_eq_true]
 unfold jX stored
 rw [any]
 by_cases q:k∈kvs.map (·.1)
 ·rw [if_pos q,if_pos (decide_eq_true q)]; exact key r
 ·rw [if_neg q,if_neg (by rw [decide_eq_false q]; exact Bool.false_ne_true)]; exact app r
theorem gK (k:α) (v:V) (kvs:List (α×V)):(jX k v kvs).length≤kvs.length+1:=by
 unfold jX
 split
 ·rw [List.length_map]; exact Nat.le_succ _
 ·rw [List.length_append]; exact Nat.le_refl _
theorem pY {k:α} {v:V} {kvs:List (α×V)} {p:α×V} (h:p∈jX k v kvs):p.1=k∨∃ q∈kvs,q.1=p.1:=by
 unfold jX at h
 split at h
 ·obtain ⟨q,h1,h2⟩:=List.mem_map.mp h
  refine .inr ⟨q,h1,?_⟩
  rw [← h2]; split<;>rfl
 ·rcases List.mem_append.mp h with h | h
  ·exact .inr ⟨p,h,rfl⟩
  ·rw [List.mem_singleton.mp h]; exact .inl rfl
end
theorem jC (a b:List Nat) (h:sOf a=sOf b):a=b:=by
 have:a.toArray=b.toArray:=congrArg Str.cps h
 simpa using this
section
variable {h:Heap} {ρ:List Addr} {N:Addr→Prop} {fs:List (String×V)} {es:List DictEntry}
theorem eu {x y:String} (h:(x:Str)=(y:Str)):x=y:=by
 have h':Str.ofString x=Str.ofString y:=h
 rw [Str.ofString_eq_toList,Str.ofString_eq_toList] at h'
 have h2:x.toList.map Char.toNat=y.toList.map Char.toNat:=by simpa using h'
 have inj: ∀ {a b:List Char},a.map Char.toNat=b.map Char.toNat→a=b:=by
  intro a
  induction a with
  | nil=>intro b e; cases b with
   | nil=>rfl
   | cons _ _=>simp at e
  | cons c a ih=>intro b e; cases b with
   | nil=>simp at e
   | cons d b=>
    simp only [List.map_cons,List.cons.injEq] at e
    have:c=d:=Char.ext (UInt32.toNat_inj.mp e.1)
    rw [this,ih e.2]
 exact String.toList_inj.mp (inj h2)
theorem nk {x y:String} {t:Tok}:(Value.str (x:Str) t).isStr (y:Str)=decide (x=y):=by
 show ((x:Str) == (y:Str))=_
 rw [Bool.eq_iff_iff,beq_iff_eq,decide_eq_true_eq]
 exact ⟨eu,fun e=>e▸rfl⟩
theorem ik.noRef (r:ik h ρ N fs es):(es.any (·.refKey))=false:=by
 induction r with
 | nil=>rfl
 | cons _ _ ih=>rw [List.any_cons,ih]; rfl
theorem ik.get (r:ik h ρ N fs es) (x:String):match fs.lookup x with
  | some v=>∃ mv,PySem.W.getL (x:Str) es=some (some mv)∧Rel h ρ N v mv
  | none=>PySem.W.getL (x:Str) es=some none:=by
 have key:match fs.lookup x with
  | some v=>∃ e,es.find? (·.key.isStr (x:Str))=some e∧Rel h ρ N v e.val
  | none=>es.find? (·.key.isStr (x:Str))=none:=by
  induction r with
  | nil=>rfl
  | @cons y v fs hs t mv es a _ ih=>
   rw [cI,List.find?_cons]
   have e:(Value.str (y:Str) t).isStr (x:Str)=decide (y=x):=nk
   by_cases q:x=y
   ·subst q
    rw [if_pos (beq_self_eq_true x),e,decide_eq_true rfl]
    exact ⟨_,rfl,a⟩
   ·rw [if_neg (fun z=>q (eq_of_beq z)),e,decide_eq_false (fun z=>q z.symm)]
    exact ih
 have nr:=r.noRef
 unfold PySem.W.getL
 cases e:fs.lookup x with
 | none=>rw [e] at key; rw [key,nr]; rfl
 | some v=>rw [e] at key; obtain ⟨en,h1,h2⟩:=key; rw [h1]; exact ⟨_,rfl,h2⟩
theorem ik.put (r:ik h ρ N fs es) (x:String) {v:V} {mv:Value} (rv:Rel h ρ N v mv) (hs:Int) (t:Tok):ik h ρ N (rJ x v fs) (PySem.W.putL (x:Str) hs (.str (x:Str) t) mv es):=by
 induction r with
 | nil=>exact .cons rv .nil
 | @cons y u fs hs' t' mu es a ra ih=>
  have e:(Value.str (y:Str) t').isStr (x:Str)=decide (y=x):=nk
  rw [rJ,PySem.W.putL,e]
  by_cases q:y=x
  ·rw [if_pos q,decide_eq_true q,if_pos rfl]; exact .cons rv ra
  ·rw [if_neg q,decide_eq_false q,if_neg Bool.false_ne_true]; exact .cons a ih
end
theorem lH (x:String) (v:V) (fs:List (String×V)):(rJ x v fs).length≤fs.length+1:=by
 induction fs with
 | nil=>exact Nat.le_refl _
 | cons p r ih=>
  rw [rJ]
  split
  ·exact Nat.le_succ _
  ·exact Nat.succ_le_succ ih
theorem cX {sep p q:List Nat} {ps:List (List Nat)}:aN sep (p::q::ps)=p++(sep++aN sep (q::ps)):=by
 rw [aN,aN,List.flatMap_cons,List.append_assoc]
theorem pI {c:Nat} {p q r r':List Nat} (hp:c ∉ p) (hq:c ∉ q) (e:p++c::r=q++c::r'):p=q∧r=r':=by
 induction p generalizing q with
 | nil=>
  cases q with
  | nil=>exact ⟨rfl,(List.cons.inj e).2⟩
  | cons d q=>exact absurd (by rw [(List.cons.inj e).1]; exact List.mem_cons_self) hq
 | cons d p ih=>
  cases q with
  | nil=>exact absurd (by rw [← (List.cons.inj e).1]; exact List.mem_cons_self) hp
  | cons d' q=>
   obtain ⟨rfl,e'⟩:=List.cons.inj e
   obtain ⟨rfl,h⟩:=ih (fun z=>hp (List.mem_cons_of_mem _ z)) (fun z=>hq (List.mem_cons_of_mem _ z)) e'
   exact ⟨rfl,h⟩
theorem qA {c:Nat} (ps:List (List Nat)): ∀ qs:List (List Nat),ps≠[]→qs≠[]→(∀ p∈ps,c ∉ p)→(∀ q∈qs,c ∉ q)→aN [c] ps=aN [c] qs→ps=qs:=by
 induction ps with
 | nil=>exact fun _ h=>absurd rfl h
 | cons p ps ih=>
  intro qs _ hq f g e
  have hp:=f p List.mem_cons_self
  have f': ∀ p∈ps,c ∉ p:=fun x hx=>f x (List.mem_cons_of_mem _ hx)
  match qs,hq,g with
  | q::qs,_,g=>
   have hq:=g q List.mem_cons_self
   have g': ∀ p∈qs,c ∉ p:=fun x hx=>g x (List.mem_cons_of_mem _ hx)
   match ps,qs with
   | [],[]=>rw [show p=q by simpa [aN] using e]
   | [],q'::qs=>exact absurd (show c∈p by rw [show p=q++([c]++aN [c] (q'::qs)) by rw [← cX,← e]; simp [aN]]; simp) hp
   | p'::ps,[]=>exact absurd (show c∈q by rw [show q=p++([c]++aN [c] (p'::ps)) by rw [← cX,e]; simp [aN]]; simp) hq
   | p'::ps,q'::qs=>
    rw [cX,cX] at e
    obtain ⟨rfl,e'⟩:=pI hp hq e
    rw [ih (q'::qs) (fun h=>nomatch h) (fun h=>nomatch h) f' g' e']
end
noncomputable section
open PySem PyProof.Rows
variable {γ:Gh}
theorem bc:sizeLine=au:=rfl
noncomputable def lm (s:Shared) (P:Value→Prop) (mv:Value) (s':Shared):Prop:=P mv∧∃ tk,s'={ s with toks:=tk }
theorem lm.now {s:Shared} {P:Value→Prop} {mv:Value} (h:P mv):lm s P mv s:=⟨h,s.toks,rfl⟩
section
variable {prog:Program} {w:World} {A:Around} {E:Value→Shared→Prop} {s:Shared} {ρ:List Addr} {N:Addr→Prop}
theorem br (a:List Nat):((⟨a.toArray⟩:Str)).length=a.length:=by rw [Str.length,List.size_toArray]
theorem du (a b:List Nat):(⟨a.toArray⟩:Str)++(⟨b.toArray⟩:Str)=⟨(a++b).toArray⟩:=by
 show Str.append _ _=_
 simp [Str.append]
theorem Rel.nil (t:Tok) {m:Value} (e:m=.str ⟨#[]⟩ t):Rel s.heap ρ N (.str []) m:=e▸.str (cs:=[]) t (Nat.zero_le _) fun _ h=>absurd h List.not_mem_nil
theorem sx {op:Operator} {va vb v:V} {ma mb:Value} (e:Bin op va vb v) (ra:Rel s.heap ρ N va ma) (rb:Rel s.heap ρ N vb mb):
  wpAny (model prog w) A (binaryOp op ma mb) (lm s fun mv=>Rel s.heap ρ N v mv) E s:=by
 cases e with
 | add a b=>
  obtain ⟨t,rfl⟩:=ra.int_inv
  obtain ⟨u,rfl⟩:=rb.int_inv
  exact P.add_int ⟨.int _ _,_,rfl⟩
 | sub a b=>
  obtain ⟨t,rfl⟩:=ra.int_inv
  obtain ⟨u,rfl⟩:=rb.int_inv
  exact P.sub_int ⟨.int _ _,_,rfl⟩
 | mul h=>
  obtain ⟨t,rfl⟩:=ra.int_inv
  obtain ⟨u,rfl⟩:=rb.int_inv
  refine P.mul_int ⟨.int _ _,_,rfl⟩ ?_
  rcases h with h | h
  ·exact IntMulOk.of_left (intBits_le_64 (by lia) (by lia))
  ·exact IntMulOk.of_right (intBits_le_64 (by lia) (by lia))
 | div h0 h1=>
  obtain ⟨t,rfl⟩:=ra.int_inv
  obtain ⟨u,rfl⟩:=rb.int_inv
  exact floordiv_int (fun q=>by rw [q] at h0; cases h0) ⟨by rw [Int.fdiv_eq_ediv_of_nonneg _ (Int.le_of_lt h0)]; exact .int _ _,_,rfl⟩ (.inl (PyProof.noPylong_small (by lia)))
 | mod h0=>
  obtain ⟨t,rfl⟩:=ra.int_inv
  obtain ⟨u,rfl⟩:=rb.int_inv
  exact mod_int' (fun q=>by rw [q] at h0; cases h0) ⟨by rw [Int.fmod_eq_emod_of_nonneg _ (Int.le_of_lt h0)]; exact .int _ _,_,rfl⟩
 | @cat a b hs=>
  obtain ⟨t,rfl,ha,ha'⟩:=ra.str_inv
  obtain ⟨u,rfl,hb,hb'⟩:=rb.str_inv
  have fits:(a++b).length≤au:=by rw [List.length_append]; unfold au; exact lin [_,_] [(1,.a (.v 0) (.v 1),.n 16000000)] 1 (.a (.v 0) (.v 1)) (.n 16777216) rfl hs
  have all: ∀ c∈a++b,c < 128:=fun c hc=>(List.mem_append.mp hc).elim (ha' c) (hb' c)
  refine P.add_str ?_
  rw [br,br]
  by_cases h0:(a.length == 0)=true
  ·rw [if_pos h0]
   obtain rfl:a=[]:=List.eq_nil_of_length_eq_zero (beq_iff_eq.mp h0)
   exact .now (.str _ fits all)
  ·rw [if_neg h0]
   by_cases h1:(b.length == 0)=true
   ·rw [if_pos h1]
    obtain rfl:b=[]:=List.eq_nil_of_length_eq_zero (beq_iff_eq.mp h1)
    exact .now (by rw [List.append_nil]; exact .str _ ha ha')
   ·rw [if_neg h1]
    rw [du]
    refine ⟨by rw [br]; exact fits,?_⟩
    exact ⟨.str _ fits all,_,rfl⟩
 | @rep c n h0 h1=>
  obtain ⟨t,rfl,ha,ha'⟩:=ra.str_inv
  obtain ⟨u,rfl⟩:=rb.int_inv
  have hi:((n:Nat):Int)≤1000:=Int.ofNat_le.mpr h1
  have hlo:(2:Int)≤((n:Nat):Int):=Int.ofNat_le.mpr h0
  have all: ∀ x∈List.replicate n c,x < 128:=fun x hx=>by rw [(List.mem_replicate.mp hx).2]; exact ha' c (List.mem_singleton.mpr rfl)
  have fits:(List.replicate n c).length≤au:=by rw [List.length_replicate]; exact Nat.le_trans h1 (by decide)
  have one: ¬ (((n:Nat):Int) == 1 || (⟨[c].toArray⟩:Str).length == 0)=true:=fun z=>by
   rw [Bool.or_eq_true,beq_iff_eq,beq_iff_eq] at z
   rcases z with z | z
   ·rw [z] at hlo; exact absurd hlo (by decide)
   ·cases z
  refine P.mul_str ?_ (fun _ _=>?_) (fun _ _=>?_) ?_
  ·rw [decide_eq_false (Int.not_lt.mpr (Int.le_trans (by decide) hlo)),decide_eq_false (Int.not_le.mpr (Int.lt_of_le_of_lt hi (by decide)))]; rfl
  ·show ¬ ((1:Int) > (2 ^ 63 - 1) / ((n:Nat):Int))
   exact Int.not_lt.mpr (Int.le_ediv_of_mul_le (Int.lt_of_lt_of_le (by decide) hlo) (by rw [Int.one_mul]; exact Int.le_trans hi (by decide)))
  ·show decide (1*n > sizeLine)=false
   rw [Nat.one_mul]; exact decide_eq_false (Nat.not_lt.mpr (Nat.le_trans h1 (by decide)))
  ·rw [if_neg (Int.not_lt.mpr (Int.le_trans (by decide) hlo)),if_neg one]
   have e: ∀ m:Nat,(List.replicate m (⟨[c].toArray⟩:Str).cps).foldl (·++·) #[]=(List.replicate m c).toArray:=fun m=>by
    induction m with
    | zero=>rfl
    | succ m ih=>rw [List.replicate_succ',List.foldl_append,ih,List.replicate_succ']; exact List.append_toArray (l₁:=List.replicate m c) (l₂:=[c])
   rw [show ((n:Nat):Int).toNat=n from rfl,e n]
   exact ⟨by rw [br]; exact fits,.str _ fits all,_,rfl⟩
end
end
noncomputable section
open PySem PyProof.Rows PySem.Spec PySem.SeqAt Builtin.Str
variable {γ:Gh}
theorem Inv.view {C:Cx} {ρ:List Addr} {H:List HO} {s:Shared} (I:Inv C γ ρ H s) {v:V} {m:Value} {xs:List V} (r:Rel s.heap ρ (Nl γ ρ H) v m) (e:fk H v xs):
  ∃ a ms,m=.ref a∧s.heap.PlainList a ms.toArray∧aI s.heap ρ (Nl γ ρ H) xs ms∧xs.length≤au:=by
 cases e with
 | lst _=>
  obtain ⟨a,ms,rfl,h1,_,h2,h3⟩:=r.lst_inv
  exact ⟨a,ms,rfl,h1,h3,h2⟩
 | loc h=>
  obtain ⟨a,rfl,ha⟩:=r.loc_inv
  obtain ⟨ms,h1,h2,h3⟩:=I.obj _ _ _ ha h
  exact ⟨a,ms,rfl,h1,h2,h3⟩
section
variable {prog:Program} {w:World} {A:Around} {E:Value→Shared→Prop} {s:Shared}
theorem gw (slice:Expr) (o i:Value): ∃ ops,subscripted slice false o i=operate ops (getItem o i):=by
 unfold subscripted
 split
 ·exact ⟨_,rfl⟩
 ·rename_i h; cases h
 ·exact ⟨_,rfl⟩
theorem ew {value slice:Expr} {o i:Value} {T id:String} {Q:Value→Shared→Prop} (hT:s.TypeIs o T)
  (hl:typeLookup (.type T) "__getitem__" =pure (some (.builtin id))) (h:wpAny (model prog w) A (getItem o i) Q E s):wpAny (model prog w) A (subscriptTail value slice o i) Q E s:=by
 unfold subscriptTail
 refine wpAny_bind ?_
 rw [getitemInPython_of_ne hT.not_modules]
 refine wpAny_bind (wpAny_specialOf hT hl ?_)
 obtain ⟨ops,hs⟩:=gw slice o i
 have fin:wpAny (model prog w) A (subscripted slice false o i) (fun r s₃=>wpAny (model prog w) A (letTemporaryGo value o r >>= fun _=>pure r) Q E s₃) E s:=by
  rw [hs]
  exact wpAny_operating (wpAny_mono h (fun r s₃ h₃=>wpAny_bind (wpAny_letTemporaryGo (wpAny_pure h₃))) fun _ _ x=>x)
 first
  | exact wpAny_pure (wpAny_bind fin)
  | exact wpAny_bind (wpAny_pure (wpAny_bind fin))
  | exact wpAny_bind fin
end
theorem fD {ρ:List Addr} {H:List HO} {a b:Addr} {o:HO} (hl:ρ.length=H.length) (q:Lv (ρ++[a]) (H++[o]) b):Lv ρ H b∨b=a:=by
 obtain ⟨i,x,h1,h2,h3⟩:=q
 rcases Nat.lt_trichotomy i ρ.length with h | h | h
 ·rw [List.getElem?_append_left h] at h1
  rw [List.getElem?_append_left (hl▸h)] at h2
  exact .inl ⟨i,x,h1,h2,h3⟩
 ·subst h
  simp at h1
  exact .inr h1.symm
 ·have:(ρ++[a])[i]?= none:=List.getElem?_eq_none (by rw [List.length_append,List.length_singleton]; exact h)
  rw [this] at h1; cases h1
structure bL (s s':Shared):Prop where
 keep: ∀ b o,s.heap.get? b=some o→s'.heap.get? b=some o
 gens:s'.gens=s.gens
 os:s'.os=s.os
theorem bL.refl (s:Shared):bL s s:=⟨fun _ _ e=>e,rfl,rfl⟩
theorem bL.trans {a b c:Shared} (x:bL a b) (y:bL b c):bL a c:=⟨fun _ _ e=>y.keep _ _ (x.keep _ _ e),y.gens.trans x.gens,y.os.trans x.os⟩
theorem bL.push (s:Shared) (o:Obj) (tk:Nat):bL s { s with heap:=s.heap.push o,toks:=tk }:=⟨fun _ _ e=>Heap.get?_push_of_some _ e,rfl,rfl⟩
theorem bL.toks (s:Shared) (tk:Nat):bL s { s with toks:=tk }:=⟨fun _ _ e=>e,rfl,rfl⟩
theorem bL.stp {ρ:List Addr} {H:List HO} {s s':Shared} (g:bL s s'):Stp ρ H s ρ H s':=.of_keep g.keep
theorem bL.inv {C:Cx} {ρ:List Addr} {H:List HO} {s s':Shared} (g:bL s s') (I:Inv C γ ρ H s):Inv C γ ρ H s':=I.of_keep g.keep g.gens g.os
theorem Inv.none_above {C:Cx} {ρ:List Addr} {H:List HO} {s:Shared} (I:Inv C γ ρ H s) {a:Addr} (h:s.heap.get? a=none):C.base.get? a=none:=by
 cases e:C.base.get? a with
 | none=>rfl
 | some o=>rw [I.base _ _ e] at h; cases h
theorem Inv.not_live {C:Cx} {ρ:List Addr} {H:List HO} {s:Shared} (I:Inv C γ ρ H s) {a:Addr} (h:s.heap.get? a=none): ¬ Nl γ ρ H a:=fun q=>by
 rcases q with q | q
 case inr=>obtain ⟨o,e⟩:=I.held a q; rw [h] at e; cases e
 obtain ⟨i,o,h1,_,_⟩:=q
 obtain ⟨o,e⟩:=I.there _ (List.mem_of_getElem? h1)
 rw [h] at e; cases e
theorem aE (h:Heap):h.get? h.objs.size=none:=by
 cases e:h.get? h.objs.size with
 | none=>rfl
 | some o=>exact absurd (Heap.lt_size e) (Nat.lt_irrefl _)
theorem kF {C:Cx} {ρ:List Addr} {H:List HO} {s s':Shared} (I:Inv C γ ρ H s) (g:bL s s') {a:Addr} {o:HO} (ha:s.heap.get? a=none):
  cG s.heap ρ (Lv ρ H) s'.heap (ρ++[a]) (Lv (ρ++[a]) (H++[o])):=
 ⟨fun _ x e _=>⟨x,g.keep _ _ e,.refl x⟩,fun b e=>(fD I.len e).imp id fun (q:b=a)=>by rw [q]; exact ha,fun i b e=>by rw [List.getElem?_append_left (List.getElem?_eq_some_iff.mp e).1]; exact e⟩
theorem Inv.snoc {C:Cx} {ρ:List Addr} {H:List HO} {s s':Shared} (I:Inv C γ ρ H s) (g:bL s s') {a:Addr} {o:HO} (ha:s.heap.get? a=none) (ha': ∃ x,s'.heap.get? a=some x)
  (r:rO C s'.heap (ρ++[a]) (Nl γ (ρ++[a]) (H++[o])) o a):Inv C γ (ρ++[a]) (H++[o]) s'∧Stp ρ H s (ρ++[a]) (H++[o]) s':=by
 have k:=kF I g (o:=o) ha
 refine ⟨⟨fun b x e=>g.keep _ _ (I.base b x e),by simp [I.len],?_,?_,?_,?_,?_,?_,fun b q=>(let ⟨o,e⟩:=I.held b q; ⟨o,g.keep _ _ e⟩),I.off,(fun b q=>let ⟨o,es,n,e,d⟩:=I.frm b q; ⟨o,es,n,g.keep _ _ e,d⟩),I.hdl' k,(fun z=>I.hq (gO z)),g.gens.trans I.gens,g.os.trans I.os⟩,⟨k⟩⟩
 ·refine List.nodup_append.mpr ⟨I.nodup,by simp,fun x hx y hy q=>?_⟩
  obtain ⟨z,hz⟩:=I.there x hx
  simp at hy; subst hy; subst q
  rw [ha] at hz; cases hz
 ·intro b hb
  rcases List.mem_append.mp hb with h | h
  ·exact I.fresh b h
  ·simp at h; subst h; exact I.none_above ha
 ·intro b hb
  rcases List.mem_append.mp hb with h | h
  ·obtain ⟨z,hz⟩:=I.there b h; exact ⟨z,g.keep _ _ hz⟩
  ·simp at h; subst h; exact ha'
 ·intro i b x e1 e2
  rcases Nat.lt_trichotomy i ρ.length with h | h | h
  ·rw [List.getElem?_append_left h] at e1
   rw [List.getElem?_append_left (I.len▸h)] at e2
   exact (I.obj i b x e1 e2).kept k.gh fun y hy=>g.keep _ _ hy
  ·subst h
   rw [List.getElem?_append_right (Nat.le_refl _)] at e1
   rw [I.len,List.getElem?_append_right (Nat.le_refl _)] at e2
   simp at e1 e2
   subst e1; subst e2
   exact r
  ·have:(ρ++[a])[i]?= none:=List.getElem?_eq_none (by rw [List.length_append,List.length_singleton]; exact h)
   rw [this] at e1; cases e1
 ·intro b hb q
  rcases List.mem_append.mp hb with h | h
  ·exact I.apart b h q
  ·simp at h; subst h; obtain ⟨o,e⟩:=I.held _ q; rw [ha] at e; cases e
 ·intro i b o' e1 q e2
  rcases Nat.lt_trichotomy i ρ.length with h | h | h
  ·rw [List.getElem?_append_left h] at e1
   rw [List.getElem?_append_left (I.len▸h)] at e2
   exact I.bor i b o' e1 q e2
  ·subst h
   rw [List.getElem?_append_right (Nat.le_refl _),Nat.sub_self] at e1
   cases e1
   obtain ⟨o,e⟩:=I.held _ (γ.bh _ q); rw [ha] at e; cases e
  ·rw [List.getElem?_eq_none (by rw [List.length_append,List.length_singleton]; exact h)] at e1; cases e1
noncomputable def cF (s:Shared) (ρ:List Addr) (N:Addr→Prop) (vs:List V) (mv:Value) (s':Shared):Prop:=
 ∃ a ms,mv=.ref a∧s.heap.get? a=none∧bL s s'∧s'.heap.PlainList a ms.toArray∧aI s.heap ρ N vs ms∧vs.length≤au
theorem cb {h:Heap} {a:Addr} {xs:Array Value} (x:h.PlainList a xs): ∃ o,h.get? a=some o:=let ⟨_,ho⟩:=x; ⟨_,ho⟩
theorem cF.post {C:Cx} {ρ:List Addr} {st:St} {s s':Shared} {vs:List V} {Q:V→St→Prop} {mv:Value} (I:Inv C γ ρ st.H s) (h:jH vs st Q) (n:cF s ρ (Nl γ ρ st.H) vs mv s'):eh C γ ρ st s Q mv s':=by
 obtain ⟨a,ms,rfl,ha,g,hl,hr,hlen⟩:=n
 rcases h with h | h
 ·exact ⟨_,st,ρ,h,rfl,.lst hl (I.not_live ha) hlen (hr.kept g.stp.kept),g.inv I,g.stp⟩
 ·have k:=kF I g (o:=.list vs) ha
  obtain ⟨I',S'⟩:=I.snoc g (o:=.list vs) ha (cb hl) ⟨ms,hl,hr.kept k.gh,hlen⟩
  exact ⟨_,_,ρ++[a],h,rfl,.loc (by rw [← I.len]; simp),I',S'⟩
theorem lm.post {C:Cx} {ρ:List Addr} {st:St} {s s':Shared} {v:V} {Q:V→St→Prop} {mv:Value} (I:Inv C γ ρ st.H s) (h:Q v st) (n:lm s (fun mv=>Rel s.heap ρ (Nl γ ρ st.H) v mv) mv s'):eh C γ ρ st s Q mv s':=by
 obtain ⟨r,tk,rfl⟩:=n
 exact ⟨v,st,ρ,h,rfl,r,(bL.toks s tk).inv I,(bL.toks s tk).stp⟩
section
variable {C:Cx} {A:Around} {E:Value→Shared→Prop} {s:Shared} {ρ:List Addr} {N:Addr→Prop} {H:List HO}
theorem kA {vs:List V} {ms:List Value} (r:aI s.heap ρ N vs ms) (hlen:vs.length≤au):wpAny C.M A (newList ms) (cF s ρ N vs) E s:=by
 unfold newList
 refine wpAny_newObj_type ?_ ?_
 ·exact ⟨_,ms,rfl,aE _,bL.push s _ s.toks,⟨_,Heap.get?_push_size _ rfl⟩,r,hlen⟩
 ·show ms.toArray.size≤sizeLine
  rw [bc,List.size_toArray,← r.length]; exact hlen
theorem eH {vs:List V} {ms:List Value} (I:Inv C γ ρ H s) (r:aI s.heap ρ (Nl γ ρ H) vs ms) (hlen:vs.length≤au):
  wpAny C.M A (newTuple ms) (fun mv s'=>Rel s'.heap ρ (Nl γ ρ H) (.tup vs) mv∧bL s s') E s:=by
 unfold newTuple
 refine wpAny_newObj_type ?_ ?_
 ·have g:=bL.push s { cls:=.type "tuple",data:=.seq ms.toArray } s.toks
  exact ⟨.tup ⟨_,Heap.get?_push_size _ rfl,rfl,_,rfl⟩ (I.not_live (aE _)) hlen (r.kept g.stp.kept),g⟩
 ·show ms.toArray.size≤sizeLine
  rw [bc,List.size_toArray,← r.length]; exact hlen
theorem lL {vs:List V} {a:Addr} {ms:List Value} (hl:s.heap.PlainList a ms.toArray) (r:aI s.heap ρ N vs ms) (hlen:vs.length≤au):wpAny C.M A (call (.type "list") [.ref a]) (cF s ρ N vs) E s:=by
 obtain ⟨o,ho,hc,n,hd⟩:=hl.isList
 refine call_list_seq (hsz:=by rw [bc,List.size_toArray,← r.length]; exact hlen) a (.inl rfl) ho hc hd fun h' c' hk hD=>?_
 ·exact ⟨_,ms,rfl,aE _,⟨hk,rfl,rfl⟩,⟨c',hD⟩,r,hlen⟩
theorem sv {a b:Addr} {xs ys:List V} {ms ns:List Value} (hl:s.heap.PlainList a ms.toArray) (hb:s.heap.PlainList b ns.toArray) (r:aI s.heap ρ N xs ms) (q:aI s.heap ρ N ys ns) (hlen:xs.length+ys.length≤16000000):
  wpAny C.M A (binaryOp .Add (.ref a) (.ref b)) (cF s ρ N (xs++ys)) E s:=by
 obtain ⟨n,ho⟩:=hl
 obtain ⟨n2,ho2⟩:=hb
 have e:ms.toArray++ns.toArray=(ms++ns).toArray:=by simp
 refine concat_meets ⟨_,ho,rfl⟩ ⟨_,ho2,rfl⟩ noFill_list_add seq_list_add PySem.F.slot_list_add PySem.F.entry_list_add (PySem.F.args_list_add_2 _ _)
  (list_addW a b ms.toArray ns.toArray n n2 none none #[] #[] ?_) ⟨ho,ho2,?_⟩
 ·rw [bc]; simp only [List.size_toArray,← r.length,← q.length,au]; exact lin [_,_] [(1,.a (.v 0) (.v 1),.n 16000000)] 1 (.a (.v 0) (.v 1)) (.n 16777216) rfl hlen
 ·rw [e]
  exact ⟨_,ms++ns,rfl,aE _,bL.push s _ s.toks,⟨_,Heap.get?_push_size _ rfl⟩,r.append q,by simp only [List.length_append,au]; exact lin [_,_] [(1,.a (.v 0) (.v 1),.n 16000000)] 1 (.a (.v 0) (.v 1)) (.n 16777216) rfl hlen⟩
theorem lK {n:Int} {t:Tok} (I:Inv C γ ρ H s):wpAny C.M A (call (.type "range") [.int n t]) (fun mv s'=>Rel s'.heap ρ (Nl γ ρ H) (.rng 0 n 1) mv∧bL s s') E s:=
 call_range_1 ⟨.rng (IsRange.new ..) (I.not_live (aE _)),bL.push s _ _⟩
end
section
variable {C:Cx} {A:Around} {E:Value→Shared→Prop} {s:Shared} {ρ:List Addr} {H:List HO}
theorem fH {k:Int} {n:Nat} (h0:0≤k) (h:k.toNat < n):seqIndex? k n=some k.toNat:=by
 unfold seqIndex?
 have h1: ¬ k < 0:=by exact Int.not_lt.mpr h0
 simp only [h1,if_false]
 simp
 lia
theorem small {xs:List V} {i:Int} {x:V} (hl:xs.length≤au) (he:xs[i.toNat]?= some x):i < 2 ^ 63:=by
 have:=(List.getElem?_eq_some_iff.mp he).1
 unfold au at hl; lia
theorem mK {value slice:Expr} {va vi v:V} {ma mi:Value} (I:Inv C γ ρ H s) (e:Idx H va vi v) (ra:Rel s.heap ρ (Nl γ ρ H) va ma) (ri:Rel s.heap ρ (Nl γ ρ H) vi mi):
  wpAny C.M A (subscriptTail value slice ma mi) (lm s fun mv=>Rel s.heap ρ (Nl γ ρ H) v mv) E s:=by
 cases e with
 | @seq _ _ _ i w h0 hx=>
  obtain ⟨u,rfl⟩:=ri.int_inv
  obtain ⟨a,ms,rfl,hl,hr,hlen⟩:=I.view ra w
  obtain ⟨m,hm,hrm⟩:=hr.get hx
  exact ew hl.isList.typeIs slot_list_getitem.lookup (wpAny_getItem_list hl.isList h0 (small hlen hx) (by rw [List.getElem?_toArray]; exact hm) (.now hrm))
 | @tup _ _ i h0 hx=>
  obtain ⟨u,rfl⟩:=ri.int_inv
  obtain ⟨a,ms,rfl,hl,_,hlen,hr⟩:=ra.tup_inv
  obtain ⟨m,hm,hrm⟩:=hr.get hx
  exact ew (T:= "tuple") (let ⟨o,ho,hc,_⟩:=hl; ⟨o,ho,hc⟩) slot_tuple_getitem.lookup (getItem_tuple (items:=_) hl (Int.le_trans (by decide) h0) (small hlen hx) (j:=i.toNat) (fH h0 (by rw [List.size_toArray]; exact (List.getElem?_eq_some_iff.mp hm).1)) (by rw [List.getElem?_toArray]; exact hm) (.now hrm))
 | @str cs c i h0 hx=>
  obtain ⟨u,rfl⟩:=ri.int_inv
  obtain ⟨t,rfl,hlen,ha⟩:=ra.str_inv
  have hlt:=(List.getElem?_eq_some_iff.mp hx).1
  refine ew (typeIs_str _ _ _) F.slot_str_getitem.lookup (P.getItem_str (c:=c) ?_ ?_ ⟨?_,_,rfl⟩)
  ·unfold au at hlen; simp; lia
  ·rw [br,fH h0 hlt]; simpa using hx
  ·exact .str (cs:=[c]) _ (show 1≤16777216 by decide) fun x hc=>by rw [List.mem_singleton.mp hc]; exact ha c (List.mem_of_getElem? hx)
 | @keyS k _ i kvs h hl=>
  obtain ⟨t,rfl,_⟩:=ri.str_inv
  obtain ⟨a,rfl,ha⟩:=ra.loc_inv
  obtain ⟨ms,hd,hr,_⟩:=I.obj _ a _ ha h
  have g:=hr.get jC k
  rw [hl] at g
  obtain ⟨mv,g1,g2⟩:=g
  exact ew hd.typeIs slot_dict_getitem.lookup (wpAny_getItem_of (strKind_is _ _ (sOf k) t) hd.mapOf g1 ⟨g2,_,rfl⟩)
 | @keyI n _ i kvs h hl=>
  obtain ⟨t,rfl⟩:=ri.int_inv
  obtain ⟨a,rfl,ha⟩:=ra.loc_inv
  obtain ⟨ms,hd,hr,_⟩:=I.obj _ a _ ha h
  have g:=hr.get (fun _ _ e=>e) n
  rw [hl] at g
  obtain ⟨mv,g1,g2⟩:=g
  exact ew hd.typeIs slot_dict_getitem.lookup (wpAny_getItem_of (intKind_is _ _ n t) hd.mapOf g1 ⟨g2,_,rfl⟩)
theorem sq {v:V} {n:Nat} {m:Value} (I:Inv C γ ρ H s) (e:xc H v n) (q:Rel s.heap ρ (Nl γ ρ H) v m):
  wpAny C.M A (call (.builtin "len") [m]) (lm s fun mv=>Rel s.heap ρ (Nl γ ρ H) (.int n) mv) E s:=by
 cases e with
 | str cs=>
  obtain ⟨t,rfl,hlen,_⟩:=q.str_inv
  exact P.len_str (by rw [br]; unfold au at hlen; lia) ⟨by rw [br]; exact .int _ _,_,rfl⟩
 | tup vs=>
  obtain ⟨a,ms,rfl,hl,_,hlen,hr⟩:=q.tup_inv
  exact len_tuple hl (by rw [List.size_toArray,← hr.length]; unfold au at hlen; lia) ⟨by rw [List.size_toArray,← hr.length]; exact .int _ _,_,rfl⟩
 | seq w=>
  obtain ⟨a,ms,rfl,hl,hr,hlen⟩:=I.view q w
  exact len_list hl.isList (by rw [List.size_toArray,← hr.length]; unfold au at hlen; lia) ⟨by rw [List.size_toArray,← hr.length]; exact .int _ _,_,rfl⟩
 | keyI h=>
  obtain ⟨a,rfl,ha⟩:=q.loc_inv
  obtain ⟨ms,hd,hr,hl,hm⟩:=I.obj _ a _ ha h
  exact call_len_dict (beq_eq_false_iff_ne.mpr hm) hd (by rw [← hr.length]; unfold au at hl; lia) ⟨by rw [← hr.length]; exact .int _ _,_,rfl⟩
end
noncomputable def tyNames:List String:=["int", "bool", "str", "list", "tuple"]
theorem ez {T:String} (h:T∈tyNames):typeOf (.type T)=pure (.type "type"):=by
 simp only [tyNames,List.mem_cons,List.not_mem_nil,or_false] at h
 rcases h with rfl | rfl | rfl | rfl | rfl
 ·exact F.isi_meta_int
 ·exact F.isi_meta_bool
 ·exact F.isi_meta_str
 ·exact F.isi_meta_list
 ·exact F.isi_meta_tuple
theorem gx {X T:String} (hX:X∈("NoneType" ::tyNames)) (h:T∈tyNames):isSubtype (.type X) (.type T)=pure (rH X T):=by
 simp only [tyNames,List.mem_cons,List.not_mem_nil,or_false] at h hX
 rcases h with rfl | rfl | rfl | rfl | rfl<;>rcases hX with rfl | rfl | rfl | rfl | rfl | rfl<;>(rw [isSubtype_type]; kernel_rfl)
section
variable {C:Cx} {A:Around} {E:Value→Shared→Prop} {s:Shared} {ρ:List Addr} {H:List HO}
theorem cV {X T:String} (h:rH X T=false):(Value.type X == Value.type T)=false:=by
 cases q:(Value.type X == Value.type T) with
 | false=>rfl
 | true=>
  have e:=beq_iff_eq.mp q
  injection e with e
  subst e
  simp [rH] at h
theorem su {v:V} {X T:String} {m:Value} (I:Inv C γ ρ H s) (hT:T∈tyNames) (e:rP H v X) (r:Rel s.heap ρ (Nl γ ρ H) v m):
  wpAny C.M A (call (.builtin "isinstance") [m,.type T]) (lm s fun mv=>Rel s.heap ρ (Nl γ ρ H) (.bool (rH X T)) mv) E s:=by
 have fin:X∈ "NoneType" ::tyNames→s.TypeIs m X→(rH X T=false→wpAny C.M A (call (.builtin "isinstance") [m,.type T]) (lm s fun mv=>Rel s.heap ρ (Nl γ ρ H) (.bool false) mv) E s)→
   wpAny C.M A (call (.builtin "isinstance") [m,.type T]) (lm s fun mv=>Rel s.heap ρ (Nl γ ρ H) (.bool (rH X T)) mv) E s:=fun hX hx no=>by
  cases hb:rH X T with
  | true=>exact call_isinstance (isinstance_true (Tx:=X) (ez hT) (by rw [gx hX hT,hb])) ⟨hx,.now (.bool _)⟩
  | false=>exact no hb
 cases e with
 | int i=>obtain ⟨t,rfl⟩:=r.int_inv; exact fin (by decide) (typeIs_int ..) fun q=>call_isinstance (isinstance_false_int (cV q) (ez hT) (by rw [gx (by decide) hT,q])) (.now (.bool _))
 | bool b=>obtain rfl:=r.bool_inv; exact fin (by decide) rfl fun q=>call_isinstance (isinstance_false_bool (cV q) (ez hT) (by rw [gx (by decide) hT,q])) (.now (.bool _))
 | str cs=>obtain ⟨t,rfl,_⟩:=r.str_inv; exact fin (by decide) (typeIs_str ..) fun q=>call_isinstance (isinstance_false_str (cV q) (ez hT) (by rw [gx (by decide) hT,q])) (.now (.bool _))
 | none=>obtain rfl:=r.none_inv; exact fin (by decide) rfl fun q=>call_isinstance (isinstance_false_none (cV q) (ez hT) (by rw [gx (by decide) hT,q])) (.now (.bool _))
 | tup vs=>
  obtain ⟨a,ms,rfl,⟨o,ho,hc,_⟩,_⟩:=r.tup_inv
  exact fin (by decide) ⟨o,ho,hc⟩ fun q=>call_isinstance (isinstance_false_tuple (cV q) (ez hT) (by rw [gx (by decide) hT,q])) ⟨⟨o,ho,hc⟩,.now (.bool _)⟩
 | seq w=>
  obtain ⟨a,ms,rfl,hl,_⟩:=I.view r w
  obtain ⟨o,ho,hc,_⟩:=hl.isList
  exact fin (by decide) ⟨o,ho,hc⟩ fun q=>call_isinstance (isinstance_false_list (cV q) (ez hT) (by rw [gx (by decide) hT,q])) ⟨⟨o,ho,hc⟩,.now (.bool _)⟩
theorem lI {i:Int} {t:Tok} (h:i.natAbs < 10 ^ 100):wpAny C.M A (call (.type "str") [.int i t]) (lm s fun mv=>Rel s.heap ρ (Nl γ ρ H) (.str (ao i)) mv) E s:=by
 have hl:i.natAbs.log2 < 1920:=by
  by_cases h0:i.natAbs=0
  ·rw [h0]; decide
  ·exact (Nat.log2_lt h0).mpr (Nat.lt_trans h (by decide +kernel))
 refine P.str_of_int hl ⟨?_,_,rfl⟩
 have e:Str.ofString (toString i)=⟨(ao i).toArray⟩:=by rw [Str.ofString_eq_toList]; rfl
 rw [e]
 have fits:=int_text_fits hl
 rw [e] at fits
 refine .str _ (by rw [← bc]; simpa [Str.length] using fits) fun c hc=>?_
 unfold ao at hc
 obtain ⟨ch,hch,rfl⟩:=List.mem_map.mp hc
 exact int_ascii i ch hch
theorem kB {b:Bool}:wpAny C.M A (call (.type "int") [.bool b]) (lm s fun mv=>Rel s.heap ρ (Nl γ ρ H) (.int (if b then 1 else 0)) mv) E s:=
 call_int_bool ⟨.int _ _,_,rfl⟩
end
theorem dZ {h:Heap} {ρ:List Addr} {N:Addr→Prop}:(∀ {v:V} {m:Value},Rel h ρ N v m→∀ n:Nat,pl n v=true→(∃ as,Reads h m (oQ v) as)∧(oQ v).canLay0=true∧(oQ v).depth≤n)∧
  ∀ {vs:List V} {ms:List Value},aI h ρ N vs ms→∀ n:Nat,vs.all (pl n)=true→(∃ as,ReadsAll h ms (et vs) as)∧PyData.canLayAll0 (et vs)=true∧PyData.depthAll (et vs)≤n:=
 Rel.both (fun n _=>⟨⟨_,.none⟩,rfl,Nat.zero_le n⟩) (fun b n _=>⟨⟨_,.bool b⟩,rfl,Nat.zero_le n⟩) (fun i t n _=>⟨⟨_,.int i t⟩,rfl,Nat.zero_le n⟩)
  (fun {cs} t _ ha n _=>⟨⟨_,.str _ t⟩,by
   simp only [oQ,PyData.canLay0,PyData.strOk]
   rw [← Array.all_toList]
   simp only [List.all_eq_true]
   intro c hc
   have:=ha c hc
   simp; exact lin [c] [(1,.a (.v 0) (.n 1),.n 128)] 1 (.a (.v 0) (.n 1)) (.n 1114112) rfl this,Nat.zero_le n⟩)
  (fun ⟨o,ho,hc,_,hd⟩ _ _ r n e=>by
   cases n with
   | zero=>cases e
   | succ n=>obtain ⟨⟨as,x⟩,h1,h2⟩:=r n e; exact ⟨⟨_,.tuple ho hc hd x⟩,h1,by simp only [oQ,PyData.depth]; exact li [_,n] [([1],[2])] [1,0] [2,0] rfl h2⟩)
  (fun ⟨_,ho⟩ _ _ r n e=>by
   cases n with
   | zero=>cases e
   | succ n=>obtain ⟨⟨as,x⟩,h1,h2⟩:=r n e; exact ⟨⟨_,.list ho rfl rfl x⟩,h1,by simp only [oQ,PyData.depth]; exact li [_,n] [([1],[2])] [1,0] [2,0] rfl h2⟩)
  (fun _ _ n e=>by cases n<;>cases e) (fun _ n e=>by cases n<;>cases e) (fun n _=>⟨⟨_,.nil⟩,rfl,Nat.zero_le n⟩) fun a r n e=>by
   obtain ⟨e1,e2⟩:=Bool.and_eq_true_iff.mp e
   obtain ⟨⟨as,x⟩,a1,a2⟩:=a n e1
   obtain ⟨⟨bs,y⟩,r1,r2⟩:=r n e2
   refine ⟨⟨_,.cons x y⟩,?_⟩
   simp only [et,PyData.canLayAll0,PyData.depthAll,a1,r1,Bool.and_self,true_and]
   lia
theorem dq {C:Cx} {ρ:List Addr} {H:List HO} {s:Shared} (I:Inv C γ ρ H s) {v v':V} {m:Value} (r:Rel s.heap ρ (Nl γ ρ H) v m) (d:mr H v v') (e:pl 6 v'=true):(∃ as,Reads s.heap m (oQ v') as)∧shaped (oQ v')=true:=by
 cases d with
 | self _=>
  obtain ⟨h1,h2,h3⟩:=dZ.1 r 6 e
  exact ⟨h1,by rw [shaped,h2,Bool.true_and,decide_eq_true_eq]; exact lin [_] [(1,.v 0,.n 6)] 1 (.v 0) (.n 64) rfl h3⟩
 | loc h=>
  obtain ⟨a,ms,rfl,hl,hr,hlen⟩:=I.view r (.loc h)
  obtain ⟨o,ho,hc,k,hd⟩:=hl.isList
  obtain ⟨⟨as,x⟩,h1,h2⟩:=dZ.2 hr 5 e
  refine ⟨⟨_,.list ho hc hd x⟩,?_⟩
  simp only [shaped,oQ,PyData.canLay0,PyData.depth,h1,Bool.true_and,decide_eq_true_eq]; exact lin [_] [(1,.v 0,.n 5)] 1 (.a (.v 0) (.n 1)) (.n 64) rfl h2
theorem kh (a b:List Nat):((⟨a.toArray⟩:Str) == ⟨b.toArray⟩)=(a == b):=by
 rw [Bool.eq_iff_iff]
 simp
theorem jU (i:Int): ∀ ns:List Int,((et (ns.map .int)).any fun y=>PyData.eqv y (.int i))=decide (i∈ns)∧(ns.map V.int).all (pl 1)=true
 | []=>⟨rfl,rfl⟩
 | n::ns=>by
  refine ⟨?_,(jU i ns).2⟩
  show ((n == i) || (et (ns.map .int)).any fun y=>PyData.eqv y (.int i))=_
  rw [(jU i ns).1,Bool.eq_iff_iff]
  simp only [Bool.or_eq_true,beq_iff_eq,decide_eq_true_eq,List.mem_cons]
  exact ⟨fun h=>h.imp Eq.symm id,fun h=>h.imp Eq.symm id⟩
theorem jT (t:List Nat): ∀ ss:List (List Nat),((et (ss.map .str)).any fun y=>PyData.eqv y (.str ⟨t.toArray⟩))=decide (t∈ss)∧(ss.map V.str).all (pl 1)=true
 | []=>⟨rfl,rfl⟩
 | n::ns=>by
  refine ⟨?_,(jT t ns).2⟩
  show (((⟨n.toArray⟩:Str) == ⟨t.toArray⟩) || (et (ns.map .str)).any fun y=>PyData.eqv y (.str ⟨t.toArray⟩))=_
  rw [(jT t ns).1,Bool.eq_iff_iff,kh]
  simp only [Bool.or_eq_true,beq_iff_eq,decide_eq_true_eq,List.mem_cons]
  exact ⟨fun h=>h.imp Eq.symm id,fun h=>h.imp Eq.symm id⟩
section
variable {C:Cx} {A:Around} {E:Value→Shared→Prop} {s:Shared} {ρ:List Addr} {H:List HO}
theorem Rel.not_none {h:Heap} {N:Addr→Prop} {v:V} {m:Value} (r:Rel h ρ N v m) (hv:v≠.none):m≠.none:=by
 cases r<;>first | exact absurd rfl hv | (intro x; cases x)
theorem qb {va vb:V} {r:Bool} {ma mb:Value} (I:Inv C γ ρ H s) (hu:A.units+65 < cLine) (e:InR H va vb r) (ra:Rel s.heap ρ (Nl γ ρ H) va ma) (rb:Rel s.heap ρ (Nl γ ρ H) vb mb):
  (∀ Q:Value→Shared→Prop,(∀ tk,Q (.bool r) { s with toks:=tk })→wpAny C.M A (compareOp .In ma mb) Q E s)∧∀ Q:Value→Shared→Prop,(∀ tk,Q (.bool !r) { s with toks:=tk })→wpAny C.M A (compareOp .NotIn ma mb) Q E s:=by
 have go: ∀ {d:PyData} {xs:List V},fk H vb xs→xs.all (pl 1)=true→Reads s.heap ma d []→d.canLay0=true→d.depth=0→((et xs).any fun y=>PyData.eqv y d)=r→
   (∀ Q:Value→Shared→Prop,(∀ tk,Q (.bool r) { s with toks:=tk })→wpAny C.M A (compareOp .In ma mb) Q E s)∧∀ Q:Value→Shared→Prop,(∀ tk,Q (.bool !r) { s with toks:=tk })→wpAny C.M A (compareOp .NotIn ma mb) Q E s:=fun {d xs} w h2 rd hd d0 h1=>by
  obtain ⟨a,ms,rfl,hl,hr,hlen⟩:=I.view rb w
  obtain ⟨o,ho,hc,n,hdd⟩:=hl.isList
  obtain ⟨⟨as,x⟩,s1,s2⟩:=dZ.2 hr 1 h2
  have room:A.units+1+min (PyData.depthAll (et xs)) d.depth < cLine:=by rw [d0,Nat.min_zero]; exact lin [_,_] [(1,.a (.a (.v 0) (.n 65)) (.n 1),.v 1)] 1 (.a (.a (.a (.v 0) (.n 1)) (.n 0)) (.n 1)) (.v 1) rfl hu
  exact ⟨fun Q hq=>in_list_reads (.list ho hc hdd x) rd s1 hd room (by rw [h1]; exact hq s.toks),fun Q hq=>notIn_list_reads (.list ho hc hdd x) rd s1 hd room (by rw [h1]; exact hq s.toks)⟩
 cases e with
 | @int i _ ns w=>obtain ⟨t,rfl⟩:=ra.int_inv; exact go w (jU i ns).2 (.int i t) rfl rfl (jU i ns).1
 | sign c cs=>
  obtain ⟨t,rfl,_⟩:=ra.str_inv
  obtain ⟨u,rfl,_⟩:=rb.str_inv
  have q:=StrLaws.found_one ⟨cs.toArray⟩ c
  exact ⟨fun Q hq=>P.in_str (by rw [show (⟨[c].toArray⟩:Str)=⟨#[c]⟩ from rfl,q]; exact hq s.toks),fun Q hq=>P.notIn_str (by rw [show (⟨[c].toArray⟩:Str)=⟨#[c]⟩ from rfl,q]; exact hq s.toks)⟩
 | @txt t _ ss w=>
  have:=(dZ.1 ra 1 rfl).2.1
  obtain ⟨u,rfl,_⟩:=ra.str_inv
  exact go w (jT t ss).2 (.str _ u) this rfl (jT t ss).1
 | @keyI n i kvs h=>
  obtain ⟨t,rfl⟩:=ra.int_inv
  obtain ⟨a,rfl,ha⟩:=rb.loc_inv
  obtain ⟨ms,hd,hr,_,hm⟩:=I.obj _ a _ ha h
  have q:=hr.has (fun _ _ e=>e) n
  exact ⟨fun Q hq=>wpAny_in_of (intKind_is _ _ n t) (beq_eq_false_iff_ne.mpr hm) hd.mapOf (by rw [q]; exact hq _),fun Q hq=>wpAny_notIn_of (intKind_is _ _ n t) (beq_eq_false_iff_ne.mpr hm) hd.mapOf (by rw [q]; exact hq _)⟩
theorem ed {op:CmpOp} {va vb:V} {r:Bool} {ma mb:Value} (I:Inv C γ ρ H s) (hu:A.units+65 < cLine) (e:Cmp H op va vb r) (ra:Rel s.heap ρ (Nl γ ρ H) va ma) (rb:Rel s.heap ρ (Nl γ ρ H) vb mb):
  wpAny C.M A (compareOp op ma mb) (lm s fun mv=>mv=.bool r) E s:=by
 cases e with
 | lt a b=>obtain ⟨t,rfl⟩:=ra.int_inv; obtain ⟨u,rfl⟩:=rb.int_inv; exact P.lt_int ⟨rfl,_,rfl⟩
 | le a b=>obtain ⟨t,rfl⟩:=ra.int_inv; obtain ⟨u,rfl⟩:=rb.int_inv; exact P.le_int ⟨rfl,_,rfl⟩
 | gt a b=>obtain ⟨t,rfl⟩:=ra.int_inv; obtain ⟨u,rfl⟩:=rb.int_inv; exact P.gt_int ⟨rfl,_,rfl⟩
 | ge a b=>obtain ⟨t,rfl⟩:=ra.int_inv; obtain ⟨u,rfl⟩:=rb.int_inv; exact P.ge_int ⟨rfl,_,rfl⟩
 | eq d1 d2 p1 p2=>
  obtain ⟨⟨as,xa⟩,sa⟩:=dq I ra d1 p1
  obtain ⟨⟨bs,xb⟩,sb⟩:=dq I rb d2 p2
  exact eq_dataH xa xb sa sb (Nat.lt_of_succ_lt hu) ⟨rfl,_,rfl⟩
 | ne d1 d2 p1 p2=>
  obtain ⟨⟨as,xa⟩,sa⟩:=dq I ra d1 p1
  obtain ⟨⟨bs,xb⟩,sb⟩:=dq I rb d2 p2
  exact ne_dataH xa xb sa sb (Nat.lt_of_succ_lt hu) ⟨rfl,_,rfl⟩
 | is h=>
  obtain rfl:mb=.none:=by cases h<;>exact rb.none_inv
  cases h with
  | nn=>rw [ra.none_inv]; exact is_none_none ⟨rfl,_,rfl⟩
  | xn h=>exact is_none_ne (ra.not_none h) ⟨rfl,_,rfl⟩
 | isNot h=>
  obtain rfl:mb=.none:=by cases h<;>exact rb.none_inv
  cases h with
  | nn=>rw [ra.none_inv]; exact isnot_none_none ⟨rfl,_,rfl⟩
  | xn h=>exact isnot_none_ne (ra.not_none h) ⟨rfl,_,rfl⟩
 | inn h=>exact (qb I hu h ra rb).1 _ fun tk=>⟨rfl,tk,rfl⟩
 | nin h=>exact (qb I hu h ra rb).2 _ fun tk=>⟨rfl,tk,rfl⟩
end
theorem fz (n:Nat) (i:Int):min (cut n i) n=clipAt n i:=by
 have h:=clipAt_cast n i
 unfold cut
 split at h<;>rename_i h1
 ·rw [if_pos h1]; lia
 ·rw [if_neg h1]; lia
theorem gz {α:Type} (xs:List α) (lo hi:Nat):slice xs lo hi=(xs.drop (min lo xs.length)).take (min hi xs.length - min lo xs.length):=by
 unfold slice
 rw [List.drop_take]
 rcases Nat.le_total lo xs.length with h | h
 ·rw [Nat.min_eq_left h]
  rcases Nat.le_total hi xs.length with h' | h'
  ·rw [Nat.min_eq_left h']
  ·rw [Nat.min_eq_right h',List.take_of_length_le (by simp; exact li [_,_,lo,hi] [([1],[4]),([4],[2,3])] [1] [2,3] rfl h' (l_g _ _)),List.take_of_length_le (by simp)]
 ·rw [Nat.min_eq_right h,List.drop_eq_nil_of_le h,List.drop_eq_nil_of_le (Nat.le_refl _)]
  simp
theorem gA (ms:List Value) (lo hi:Option Int):slicePick ms.toArray lo hi none=(slice ms (bM ms.length lo) (bQ ms.length hi)).toArray:=by
 rw [slicePick_plain,gz]
 simp only [List.size_toArray]
 congr 1
 have e1:lo.elim 0 (clipAt ms.length)=min (bM ms.length lo) ms.length:=by
  cases lo with
  | none=>simp [bM]
  | some i=>exact (fz _ _).symm
 have e2:hi.elim ms.length (clipAt ms.length)=min (bQ ms.length hi) ms.length:=by
  cases hi with
  | none=>simp [bQ]
  | some i=>exact (fz _ _).symm
 rw [e1,e2]
theorem kC (cs:List Nat) (l u:Option (Int×Tok)):
  slicePicked ⟨cs.toArray⟩ l u none=(List.range (min (bQ cs.length (u.map (·.1))) cs.length - min (bM cs.length (l.map (·.1))) cs.length)).map (min (bM cs.length (l.map (·.1))) cs.length+ ·):=by
 rw [← sliceRange_one]
 have hlen:=br cs
 have c: ∀ i:Int,max 0 (min (if i < 0 then i+(cs.length:Int) else i) cs.length)=((min (cut cs.length i) cs.length:Nat):Int):=fun i=>by rw [fz,clipAt_cast]
 unfold slicePicked
 rw [hlen]
 show strSliceIndices _ _ 1 _=_
 unfold strSliceIndices
 cases l<;>cases u<;>simp only [show ((1:Int) > 0)=True from by simp,if_true,Option.map_none,Option.map_some,c,bM,bQ,Option.elim_none,Option.elim_some]<;>congr 1<;>simp
theorem jw (cs:List Nat) (l u:Option (Int×Tok)):(slicePicked ⟨cs.toArray⟩ l u none).filterMap (cs.toArray[·]?)=slice cs (bM cs.length (l.map (·.1))) (bQ cs.length (u.map (·.1))):=by
 rw [gz,kC,pick_run]
section
variable {C:Cx} {A:Around} {E:Value→Shared→Prop} {s:Shared} {ρ:List Addr} {H:List HO}
theorem dF {α:Type} (xs:List α) (lo hi:Nat):(slice xs lo hi).length≤xs.length:=by
 unfold slice; simp; exact li [_,_,lo] [([1],[2])] [1] [2,3] rfl (Nat.min_le_right _ _)
theorem qm {α:Type} {xs:List α} {lo hi:Nat} {x:α} (h:x∈slice xs lo hi):x∈xs:=List.mem_of_mem_take (List.mem_of_mem_drop h)
theorem aI.slice {h:Heap} {ρ:List Addr} {N:Addr→Prop} {vs:List V} {ms:List Value} (r:aI h ρ N vs ms) (lo hi:Nat):aI h ρ N (Mine.slice vs lo hi) (Mine.slice ms lo hi):=(r.take hi).drop lo
noncomputable def la (v:Option V) (m:Value) (i:Option Int):Prop:=(v=none∧m=.none∧i=none)∨∃ k t,v=some (.int k)∧m=.int k t∧i=some k
theorem iq {value slice:Expr} {cs:List Nat} {t:Tok} {vl vu:Option V} {ml mu:Value} {lo hi:Option Int} (hlen:cs.length≤au) (ha: ∀ c∈cs,c < 128) (pl:la vl ml lo) (pu:la vu mu hi):
  wpAny C.M A (subscriptTail value slice (.str ⟨cs.toArray⟩ t) (.ref s.heap.objs.size)) (fun mv s'=>Rel s.heap ρ (Nl γ ρ H) (.str (Mine.slice cs (bM cs.length lo) (bQ cs.length hi))) mv∧bL s s') E
   { s with heap:=s.heap.push { cls:=.type "slice",data:=.fields #[ml,mu,.none]}}:=by
 obtain ⟨l,e1,e2⟩: ∃ l:Option (Int×Tok),ml=partValue l∧lo=l.map (·.1):=by
  rcases pl with ⟨_,rfl,rfl⟩ | ⟨k,t,_,rfl,rfl⟩
  ·exact ⟨none,rfl,rfl⟩
  ·exact ⟨some (k,t),rfl,rfl⟩
 obtain ⟨u,f1,f2⟩: ∃ l:Option (Int×Tok),mu=partValue l∧hi=l.map (·.1):=by
  rcases pu with ⟨_,rfl,rfl⟩ | ⟨k,t,_,rfl,rfl⟩
  ·exact ⟨none,rfl,rfl⟩
  ·exact ⟨some (k,t),rfl,rfl⟩
 subst e1 e2 f1 f2
 refine ew (typeIs_str _ _ _) F.slot_str_getitem.lookup (wpAny_getItem_str_slice (l:=l) (u:=u) (st:=none) ⟨_,Heap.get?_push_size _ rfl,rfl,rfl⟩ rfl ?_)
 have key:=jw cs l u
 unfold sliceMade
 split
 ·rename_i hc
  refine ⟨?_,bL.push s _ s.toks⟩
  have hx:=br cs
  simp only [Bool.and_eq_true,beq_iff_eq] at hc
  have:Mine.slice cs (bM cs.length (l.map (·.1))) (bQ cs.length (u.map (·.1)))=cs:=by
   rw [← key]
   unfold Mine.slice at key
   have h2:=hc.2
   rw [hx] at h2
   have h3:(slicePicked ⟨cs.toArray⟩ l u none).filterMap (cs.toArray[·]?)=cs:=by
    rw [key]
    have hl:((List.take (bQ cs.length (u.map (·.1))) cs).drop (bM cs.length (l.map (·.1)))).length=cs.length:=by
     have k1:=kC cs l u
     rw [k1,List.length_map,List.length_range] at h2
     have k2:=gz cs (bM cs.length (l.map (·.1))) (bQ cs.length (u.map (·.1)))
     unfold Mine.slice at k2
     rw [k2,List.length_take,List.length_drop]
     exact l_a (li [_,_,_] [([3],[2]),([1],[3])] [1] [2] rfl (Nat.sub_le _ _) (Nat.min_le_right _ _)) (li [_,_,_] [([1],[3]),([3],[2])] [1] [2] rfl (l_s h2) (l_m (li [_,_,_,_,_] [([3],[2,4]),([5],[3]),([1,4],[5])] [1] [2] rfl (l_g _ _) (Nat.min_le_right _ _) (l_d (li [_,_,_,_] [([3],[4]),([4],[2]),([1],[3])] [1] [2] rfl (l_s h2) (Nat.sub_le _ _) (Nat.min_le_right _ _))))))
    have hs:((List.take (bQ cs.length (u.map (·.1))) cs).drop (bM cs.length (l.map (·.1)))).Sublist cs:=(List.drop_sublist _ _).trans (List.take_sublist _ _)
    exact hs.eq_of_length hl
   exact h3
  rw [this]
  exact .str _ hlen ha
 ·refine ⟨?_,?_,?_⟩
  ·show (((slicePicked ⟨cs.toArray⟩ l u none).filterMap (cs.toArray[·]?)).toArray).size≤sizeLine
   rw [key,bc,List.size_toArray]
   exact Nat.le_trans (dF _ _ _) hlen
  ·show Rel _ _ _ _ (Value.str ⟨((slicePicked ⟨cs.toArray⟩ l u none).filterMap (cs.toArray[·]?)).toArray⟩ _)
   rw [key]
   exact .str _ (Nat.le_trans (dF _ _ _) hlen) fun c hc=>ha c (qm hc)
  ·exact bL.push s _ _
end
section
variable {C:Cx} {A:Around} {E:Value→Shared→Prop} {s:Shared} {ρ:List Addr} {N:Addr→Prop} {H:List HO}
theorem gL {value slice:Expr} {a:Addr} {xs:List V} {ms:List Value} {vl vu:Option V} {ml mu:Value} {lo hi:Option Int} (hl:s.heap.PlainList a ms.toArray) (r:aI s.heap ρ N xs ms) (hlen:xs.length≤au)
  (pl:la vl ml lo) (pu:la vu mu hi):
  wpAny C.M A (subscriptTail value slice (.ref a) (.ref s.heap.objs.size)) (cF s ρ N (Mine.slice xs (bM xs.length lo) (bQ xs.length hi))) E
   { s with heap:=s.heap.push { cls:=.type "slice",data:=.fields #[ml,mu,.none]}}:=by
 have il:IsPart ml lo:=by
  rcases pl with ⟨_,rfl,rfl⟩ | ⟨k,t,_,rfl,rfl⟩
  ·exact .none
  ·exact .int k t
 have iu:IsPart mu hi:=by
  rcases pu with ⟨_,rfl,rfl⟩ | ⟨k,t,_,rfl,rfl⟩
  ·exact .none
  ·exact .int k t
 refine ew (T:= "list") (hl.isList.push _).typeIs slot_list_getitem.lookup (wpAny_getItem_list_slice (hl.isList.push _) (Heap.IsSliceOf.new ..) il iu .none (by simp) ?_ (by rw [bc,List.size_toArray,← r.length]; exact hlen))
 have g1:=bL.push s { cls:=.type "slice",data:=.fields #[ml,mu,.none]} s.toks
 have g2:=bL.push { s with heap:=s.heap.push { cls:=.type "slice",data:=.fields #[ml,mu,.none]}} { cls:=.type "list",data:=.seq (slicePick ms.toArray lo hi none)} s.toks
 have hf:s.heap.get? (s.heap.push { cls:=.type "slice",data:=.fields #[ml,mu,.none]}).objs.size=none:=by
  rw [Heap.size_push]
  cases e:s.heap.get? (s.heap.objs.size+1) with
  | none=>rfl
  | some o=>exact absurd (Heap.lt_size e) (Nat.not_lt.mpr (Nat.le_succ _))
 refine ⟨_,Mine.slice ms (bM ms.length lo) (bQ ms.length hi),rfl,hf,g1.trans g2,⟨0,?_⟩,?_,?_⟩
 ·rw [gA]; exact Heap.get?_push_size _ rfl
 ·rw [r.length]; exact r.slice _ _
 ·exact Nat.le_trans (dF _ _ _) hlen
end
end
noncomputable section
open PySem PyProof.Rows
variable {γ:Gh}
noncomputable def kd (sc:Scope) (x:String):Option NameKind:=sc.names.lookup (x:Str)
noncomputable def ej (sc:Scope) (x:String):Bool:=kd sc x == some .local || kd sc x == some .cell || kd sc x == some .free
noncomputable def bD (sc:Scope) (x:String):Bool:=kd sc x == some .globalImplicit && !((x:Str) == ("__debug__" :Str))
noncomputable def bu:Expr→Bool
 | .Set ..=>true
 | _=>false
noncomputable def aW (e:Expr):Bool:=
 match e with
 | .Starred _ _=>false
 | .Call (.Name _ _) es _ _=>!es.isEmpty
 | _=>true
structure At (C:Cx) (γ:Gh) (env:Env) (ρ₀:List Addr) (st₀:St) (s₀:Shared) (ρ:List Addr) (st:St) (s:Shared):Prop where
 inv:Inv C γ ρ st.H s
 fra:Fra γ env st ρ s
 stp:Stp ρ₀ st₀.H s₀ ρ st.H s
 same:st.s=st₀.s
theorem At.start {C:Cx} {env:Env} {ρ:List Addr} {st:St} {s:Shared} (I:Inv C γ ρ st.H s) (F:Fra γ env st ρ s):At C γ env ρ st s ρ st s:=⟨I,F,.refl ..,rfl⟩
section
variable {C:Cx} {env:Env} {ρ₀:List Addr} {st₀:St} {s₀:Shared} {ρ:List Addr} {st:St} {s s':Shared} {Q:V→St→Prop} {mv:Value}
theorem At.post {v:V} (a:At C γ env ρ₀ st₀ s₀ ρ st s) (h:Q v st) (r:Rel s.heap ρ (Nl γ ρ st.H) v mv):eh C γ ρ₀ st₀ s₀ Q mv s:=⟨v,st,ρ,h,a.same,r,a.inv,a.stp⟩
theorem At.thenPost (a:At C γ env ρ₀ st₀ s₀ ρ st s) (p:eh C γ ρ st s Q mv s'):eh C γ ρ₀ st₀ s₀ Q mv s':=p.step a.stp a.same
theorem At.grew (a:At C γ env ρ₀ st₀ s₀ ρ st s) (g:bL s s'):At C γ env ρ₀ st₀ s₀ ρ st s':=⟨g.inv a.inv,a.fra.step g.stp rfl,a.stp.trans g.stp,a.same⟩
theorem At.sameP {v:V} (a:At C γ env ρ₀ st₀ s₀ ρ st s) (h:Q v st) (p:lm s (fun mv=>Rel s.heap ρ (Nl γ ρ st.H) v mv) mv s'):eh C γ ρ₀ st₀ s₀ Q mv s':=a.thenPost (p.post a.inv h)
theorem At.newP {vs:List V} (a:At C γ env ρ₀ st₀ s₀ ρ st s) (h:jH vs st Q) (p:cF s ρ (Nl γ ρ st.H) vs mv s'):eh C γ ρ₀ st₀ s₀ Q mv s':=a.thenPost (p.post a.inv h)
theorem At.grewP {v:V} (a:At C γ env ρ₀ st₀ s₀ ρ st s) (h:Q v st) (p:Rel s'.heap ρ (Nl γ ρ st.H) v mv∧bL s s'):eh C γ ρ₀ st₀ s₀ Q mv s':=(a.grew p.2).post h p.1
end
section
variable (C:Cx) (k:Nat) (sc:Scope)
noncomputable def SE (e:E) (pe:Expr):Prop:=∀ (env:Env) (A:Around) (s:Shared) (γ:Gh) (ρ:List Addr) (st:St) (Q:V→St→Prop) (X:String→St→Prop),env.scope=sc→bK (2*k+1) A γ→Inv C γ ρ st.H s→Fra γ env st ρ s→
 wE (Calls C k) C.glo e st Q X→wpAny C.M A (eval pe env) (eh C γ ρ st s Q) (bj C γ ρ st s X) s
noncomputable def wB (γ:Gh) (ρ:List Addr) (st:St) (s:Shared) (Q:Bool→St→Prop) (b:Bool) (s':Shared):Prop:=∃ st' ρ',Q b st'∧st'.s=st.s∧Inv C γ ρ' st'.H s'∧Stp ρ st.H s ρ' st'.H s'
noncomputable def ST (e:E) (pe:Expr):Prop:=∀ (env:Env) (A:Around) (s:Shared) (γ:Gh) (ρ:List Addr) (st:St) (Q:Bool→St→Prop) (X:String→St→Prop),env.scope=sc→bK (2*k+1) A γ→Inv C γ ρ st.H s→Fra γ env st ρ s→
 wT (Calls C k) C.glo e st Q X→wpAny C.M A (isTrue pe env (eval pe env)) (wB C γ ρ st s Q) (bj C γ ρ st s X) s
noncomputable def BC (γ:Gh) (n:Nat) (ρ:List Addr) (st:St) (s:Shared) (Q:List V→St→Prop) (ms:List Value) (s':Shared):Prop:=
 ms.length=n∧∃ vs st' ρ',Q vs st'∧st'.s=st.s∧aI s'.heap ρ' (Nl γ ρ' st'.H) vs ms∧Inv C γ ρ' st'.H s'∧Stp ρ st.H s ρ' st'.H s'
noncomputable def SEs (es:Es) (pes:List Expr):Prop:=(∀ pe∈pes,aW pe=true)∧∀ (pos:Pos) (env:Env) (A:Around) (s:Shared) (γ:Gh) (ρ:List Addr) (st:St) (Q:List V→St→Prop) (X:String→St→Prop),env.scope=sc→bK (2*k+1) A γ→Inv C γ ρ st.H s→Fra γ env st ρ s→
 wEs (Calls C k) C.glo es st Q X→wpAny C.M A (spliced (backTo pos (starEach pes env))) (BC C γ pes.length ρ st s Q) (bj C γ ρ st s X) s
end
section
variable {C:Cx} {k:Nat} {sc:Scope} {env:Env} {A:Around} {ρ₀:List Addr} {st₀:St} {s₀:Shared} {ρ:List Addr} {st:St} {s:Shared} {X:String→St→Prop}
theorem SE.at {e:E} {pe:Expr} {W:V→St→Prop} {K:Value→Shared→Prop} (ih:SE C k sc e pe) (hs:env.scope=sc) (hr:bK (2*k+1) A γ) (a:At C γ env ρ₀ st₀ s₀ ρ st s) (w:wE (Calls C k) C.glo e st W X)
  (h: ∀ mv s' v st' ρ',W v st'→Rel s'.heap ρ' (Nl γ ρ' st'.H) v mv→At C γ env ρ₀ st₀ s₀ ρ' st' s'→Stp ρ st.H s ρ' st'.H s'→K mv s'):wpAny C.M A (eval pe env) K (bj C γ ρ₀ st₀ s₀ X) s:=
 wpAny_mono (ih env A s γ ρ st W X hs hr a.inv a.fra w) (fun mv s' p=>by
  obtain ⟨v,st',ρ',h1,h2,h3,h4,h5⟩:=p
  exact h mv s' v st' ρ' h1 h3 ⟨h4,a.fra.step h5 h2,a.stp.trans h5,h2.trans a.same⟩ h5) fun _ _ p=>p.step a.inv a.stp a.same
theorem ST.at {e:E} {pe:Expr} {W:Bool→St→Prop} {K:Bool→Shared→Prop} (ih:ST C k sc e pe) (hs:env.scope=sc) (hr:bK (2*k+1) A γ) (a:At C γ env ρ₀ st₀ s₀ ρ st s) (w:wT (Calls C k) C.glo e st W X)
  (h: ∀ b s' st' ρ',W b st'→At C γ env ρ₀ st₀ s₀ ρ' st' s'→Stp ρ st.H s ρ' st'.H s'→K b s'):wpAny C.M A (isTrue pe env (eval pe env)) K (bj C γ ρ₀ st₀ s₀ X) s:=
 wpAny_mono (ih env A s γ ρ st W X hs hr a.inv a.fra w) (fun mv s' p=>by
  obtain ⟨st',ρ',h1,h2,h4,h5⟩:=p
  exact h mv s' st' ρ' h1 ⟨h4,a.fra.step h5 h2,a.stp.trans h5,h2.trans a.same⟩ h5) fun _ _ p=>p.step a.inv a.stp a.same
theorem SEs.at {es:Es} {pes:List Expr} {pos:Pos} {W:List V→St→Prop} {K:List Value→Shared→Prop} (ih:SEs C k sc es pes) (hs:env.scope=sc) (hr:bK (2*k+1) A γ) (a:At C γ env ρ₀ st₀ s₀ ρ st s) (w:wEs (Calls C k) C.glo es st W X)
  (h: ∀ ms s' vs st' ρ',ms.length=pes.length→W vs st'→aI s'.heap ρ' (Nl γ ρ' st'.H) vs ms→At C γ env ρ₀ st₀ s₀ ρ' st' s'→Stp ρ st.H s ρ' st'.H s'→K ms s'):wpAny C.M A (spliced (backTo pos (starEach pes env))) K (bj C γ ρ₀ st₀ s₀ X) s:=
 wpAny_mono (ih.2 pos env A s γ ρ st W X hs hr a.inv a.fra w) (fun ms s' p=>by
  obtain ⟨hn,v,st',ρ',h1,h2,h3,h4,h5⟩:=p
  exact h ms s' v st' ρ' hn h1 h3 ⟨h4,a.fra.step h5 h2,a.stp.trans h5,h2.trans a.same⟩ h5) fun _ _ p=>p.step a.inv a.stp a.same
theorem bj.mono {Y:String→St→Prop} {ev:Value} {s':Shared} (h: ∀ c st,X c st→Y c st) (p:bj C γ ρ st s X ev s'):bj C γ ρ st s Y ev s':=let ⟨c,st',ρ',h1,h2⟩:=p; ⟨c,st',ρ',h _ _ h1,h2⟩
theorem eN {l:List Addr} {i j:Nat} {a:Addr} (h:l.Nodup) (hi:l[i]?= some a) (hj:l[j]?= some a):i=j:=by
 obtain ⟨hi',e1⟩:=List.getElem?_eq_some_iff.mp hi
 obtain ⟨hj',e2⟩:=List.getElem?_eq_some_iff.mp hj
 exact (List.getElem_inj h).mp (e1.trans e2.symm)
theorem be {H:List HO} {i j:Nat} {o x:HO} (h:(H.set i o)[j]?= some x):(i=j∧x=o∧i < H.length)∨(i≠j∧H[j]?= some x):=by
 rw [List.getElem?_set] at h
 by_cases e:i=j
 ·rw [if_pos e] at h
  by_cases l:i < H.length
  ·rw [if_pos l] at h; exact .inl ⟨e,(Option.some.inj h).symm,l⟩
  ·rw [if_neg l] at h; cases h
 ·rw [if_neg e] at h; exact .inr ⟨e,h⟩
theorem Inv.live_nh {H:List HO} {a:Addr} (I:Inv C γ ρ H s) (h:Lv ρ H a): ¬ γ.h a:=fun q=>by
 obtain ⟨i,o,h1,h2,h3⟩:=h
 rw [I.bor i a o h1 (I.apart a (List.mem_of_getElem? h1) q) h2] at h3; cases h3
theorem qH {i:Nat} {vs:List V} {m:Value} {Q:V→St→Prop} (a:At C γ env ρ₀ st₀ s₀ ρ st s) (hH:st.H[i]?= some (.list vs)) (r:Rel s.heap ρ (Nl γ ρ st.H) (.loc i) m) (w:Q (.lst vs) ⟨st.s,st.H.set i .dead⟩):eh C γ ρ₀ st₀ s₀ Q m s:=by
 obtain ⟨x,rfl,hx⟩:=r.loc_inv
 obtain ⟨ms,hl,hr',hlen⟩:=a.inv.obj i _ _ hx hH
 have lv: ∀ b,Lv ρ (st.H.set i .dead) b→Lv ρ st.H b∧b≠x:=fun b ⟨j,o,h1,h2,h3⟩=>by
  rcases be h2 with ⟨_,rfl,_⟩ | ⟨ne,h2⟩
  ·cases h3
  ·exact ⟨⟨j,o,h1,h2,h3⟩,fun e=>ne (eN a.inv.nodup hx (e▸h1))⟩
 have kd:cG s.heap ρ (Lv ρ st.H) s.heap ρ (Lv ρ (st.H.set i .dead)):=⟨fun _ o e _=>⟨o,e,.refl o⟩,fun b q=>.inl (lv b q).1,fun _ _ e=>e⟩
 have nl: ¬ Nl γ ρ (st.H.set i .dead) x:=fun q=>q.elim (fun q=>(lv x q).2 rfl) fun q=>a.inv.live_nh ⟨i,_,hx,hH,rfl⟩ q
 refine ⟨_,_,ρ,w,a.same,.lst hl nl hlen (hr'.kept kd.gh),⟨a.inv.base,by rw [List.length_set]; exact a.inv.len,a.inv.nodup,a.inv.fresh,a.inv.there,fun j b o h1 h2=>?_,a.inv.apart,?_,a.inv.held,a.inv.off,a.inv.frm,a.inv.hdl' kd,(fun z=>a.inv.hq (ee hH (fun c=>HO.noConfusion) z)),a.inv.gens,a.inv.os⟩,a.stp.trans ⟨kd⟩⟩
 ·rcases be h2 with ⟨_,rfl,_⟩ | ⟨_,h2⟩
  ·trivial
  ·exact (a.inv.obj j b o h1 h2).kept kd.gh fun _ q=>q
 ·intro j b o h1 q h2
  rcases be h2 with ⟨_,rfl,_⟩ | ⟨_,h2⟩
  ·rfl
  ·exact a.inv.bor j b o h1 q h2
theorem se {pe:Expr}:SE C k sc .stuck pe:=fun _ _ _ _ _ _ _ _ _ _ _ _ w=>False.elim w
theorem xz {x:String} {p:Pos} (hk:ej sc x=true) (hd:(!((x:Str) == ("__debug__" :Str)) && !((x:Str) == ("__classdict__" :Str)) && !((x:Str) == (".0" :Str)))=true):SE C k sc (.var x) (.Name (x:Str) p):=by
 rintro env A s γ ρ st Q X rfl hr I F ⟨v,hv,w⟩
 simp only [Bool.and_eq_true,beq_iff_eq,Bool.not_eq_true',ej,Bool.or_eq_true,kd] at hk hd
 have hz:(x:Str)≠(".0" :Str):=fun e=>by rw [e] at hd; cases hd.2
 refine wpAny_Name ?_ hd.1.1
 have fin: ∀ {mv:Value},Rel s.heap ρ (Nl γ ρ st.H) v mv→eh C γ ρ st s Q mv s:=fun r=>by
  rcases w with w | ⟨i,vs,rfl,hH,w⟩
  ·exact (At.start I F).post w r
  ·exact qH (At.start I F) hH r w
 rcases hk with (hk | hk) | hk
 ·obtain ⟨m,hn,hl⟩:=F.ns
  obtain ⟨mv,e1,e2⟩:=hl x v hk hz hv
  exact wpAny_loadName_local F.kind hk hn e1 (fin e2)
 ·obtain ⟨c,ov,h1,h2,h3,h4⟩:=F.cell x (.inl hk)
  obtain ⟨mv,rfl,e2⟩:=h4 x rfl v hv
  exact wpAny_loadName_cell F.kind hk h1 h3 (fin e2)
 ·obtain ⟨c,ov,h1,h2,h3,h4⟩:=F.cell x (.inr hk)
  obtain ⟨mv,rfl,e2⟩:=h4 x rfl v hv
  exact wpAny_loadName_free F.kind hk h1 h3 (fin e2) hd.1.2
theorem xJ {x:String} {p:Pos} (hk:bD sc x=true):SE C k sc (.glo x) (.Name (x:Str) p):=by
 rintro env A s γ ρ st Q X rfl hr I F ⟨v,hv,w⟩
 simp only [Bool.and_eq_true,beq_iff_eq,Bool.not_eq_true',bD,kd] at hk
 obtain ⟨i,t,rfl,hg⟩:=C.hglo x v hv
 exact Calls.Name_function_global F.kind hk.1 (Calls.loadGlobal_global (mg:=C.mg) (by rw [F.glob]; exact C.g.keeps I.base) hg ((At.start I F).post w (.int _ _))) hk.2
theorem uF {p:Pos} {u:Nat}:SE C k sc .none (.Constant .none u p):=fun _ _ _ _ _ _ _ _ _ _ I F w=>Constant_none ((At.start I F).post w .none)
theorem uP {b:Bool} {p:Pos} {u:Nat}:SE C k sc (.bool b) (.Constant (.bool b) u p):=fun _ _ _ _ _ _ _ _ _ _ I F w=>Constant_bool ((At.start I F).post w (.bool _))
theorem xH {i:Int} {p:Pos} {u:Nat}:SE C k sc (.int i) (.Constant (.int i) u p):=fun _ _ s _ _ _ _ _ _ _ I F w=>wpAny_Constant_int ((At.start I F).grew (bL.toks s _) |>.post w (.int _ _))
theorem xB {x:Str} {p:Pos} {u:Nat} (h:(decide (x.cps.toList.length≤1000) && x.cps.toList.all (· < 128))=true):SE C k sc (.str x.cps.toList) (.Constant (.str x) u p):=fun env A s γ ρ st Q X _ _ I F w=>by
 obtain ⟨h1,h2⟩:=Bool.and_eq_true_iff.mp h
 refine Calls.Constant_str ((At.start I F).grew (bL.toks s _) |>.post w ?_)
 exact .str (cs:=x.cps.toList) _ (Nat.le_trans (of_decide_eq_true h1) (by decide)) fun c hc=>of_decide_eq_true (List.all_eq_true.mp h2 c hc)
theorem xM {op:Operator} {a b:E} {pa pb:Expr} {p:Pos} (ha:SE C k sc a pa) (hb:SE C k sc b pb):SE C k sc (.bin op a b) (.BinOp pa op pb p):=fun env A s γ ρ st Q X hs hr I F w=>
 wpAny_BinOp (ha.at hs hr (At.start I F) w fun ma s₁ va st₁ ρ₁ w₁ r₁ a₁ S₁=>hb.at hs hr a₁ w₁ fun mb s₂ vb st₂ ρ₂ w₂ r₂ a₂ S₂=>by
  rcases w₂ with ⟨v,e,hQ⟩ | ⟨xs,ys,rfl,e1,e2,hl,hQ⟩
  ·exact wpAny_mono (sx e (r₁.kept S₂.kept) r₂) (fun _ _ p=>a₂.sameP hQ p) fun _ _ x=>x
  ·obtain ⟨p,ms,rfl,hp,rp,lp⟩:=a₂.inv.view (r₁.kept S₂.kept) e1
   obtain ⟨q,ns,rfl,hq,rq,lq⟩:=a₂.inv.view r₂ e2
   exact wpAny_mono (sv hp hq rp rq hl) (fun _ _ p=>a₂.newP hQ p) fun _ _ x=>x)
theorem xE {a:E} {pa:Expr} {p:Pos} (ha:SE C k sc a pa):SE C k sc (.neg a) (.UnaryOp .USub pa p):=fun env A s γ ρ st Q X hs hr I F w=>
 UnaryOp_ (ha.at hs hr (At.start I F) w fun ma s₁ va st₁ ρ₁ w₁ r₁ a₁ S₁=>by
  obtain ⟨i,rfl,w₁⟩:=w₁
  obtain ⟨t,rfl⟩:=r₁.int_inv
  exact P.neg_int ((a₁.grew (bL.toks s₁ _)).post w₁ (.int _ _)))
theorem xD {a:E} {pa:Expr} {p:Pos} (ha:SE C k sc a pa):SE C k sc (.not a) (.UnaryOp .Not pa p):=fun env A s γ ρ st Q X hs hr I F w=>
 UnaryOp_ (ha.at hs hr (At.start I F) w fun ma s₁ va st₁ ρ₁ w₁ r₁ a₁ S₁=>by
  obtain ⟨b,rfl,w₁⟩:=w₁
  obtain rfl:=r₁.bool_inv
  exact not_of (wpAny_truthy_bool (a₁.post w₁ (.bool _))))
theorem xI {a i:E} {pa pi:Expr} {p:Pos} (ha:SE C k sc a pa) (hi:SE C k sc i pi):SE C k sc (.idx a i) (.Subscript pa pi p):=fun env A s γ ρ st Q X hs hr I F w=>
 Subscript_ (ha.at hs hr (At.start I F) w fun ma s₁ va st₁ ρ₁ w₁ r₁ a₁ S₁=>hi.at hs hr a₁ w₁ fun mi s₂ vi st₂ ρ₂ w₂ r₂ a₂ S₂=>by
  obtain ⟨v,e,hQ⟩:=w₂
  exact wpAny_mono (mK a₂.inv e (r₁.kept S₂.kept) r₂) (fun _ _ p=>a₂.sameP hQ p) fun _ _ x=>x)
theorem dH {op:CmpOp} {e:Expr} (h:bu e=false):behindInMarks op e=false:=by
 cases e<;>first | rfl | cases h
theorem bK.cmp {k:Nat} {A:Around} (r:bK (2*k+1) A γ):A.units+65 < cLine:=by have:=r.units; show _ < 9900; exact lin [_,k] [(1,.a (.a (.v 0) (.m 4 (.a (.m 2 (.v 1)) (.n 1)))) (.n 1),.n 9000)] 1 (.a (.a (.v 0) (.n 65)) (.n 1)) (.n 9900) rfl this
theorem iP {o1 o2:CmpOp} {b c:Expr} (h:bu c=false):lastMarks [o1,o2] [b,c]=false:=dH h
theorem xK {op:CmpOp} {a b:E} {pa pb:Expr} {p:Pos} (h0:bu pb=false) (ha:SE C k sc a pa) (hb:SE C k sc b pb):SE C k sc (.cmp op a b) (.Compare pa [op] [pb] p):=fun env A s γ ρ st Q X hs hr I F w=>
 wpAny_Compare1 (ha.at hs hr (At.start I F) w fun ma s₁ va st₁ ρ₁ w₁ r₁ a₁ S₁=>hb.at hs hr a₁ w₁ fun mb s₂ vb st₂ ρ₂ w₂ r₂ a₂ S₂=>by
  obtain ⟨v,e,hQ⟩:=w₂
  exact wpAny_mono (ed a₂.inv hr.cmp e (r₁.kept S₂.kept) r₂) (fun _ _ p=>by obtain ⟨rfl,tk,rfl⟩:=p; exact (a₂.grew (.toks _ tk)).post hQ (.bool _)) fun _ _ x=>x) (dH h0)
theorem xl {op:CmpOp} {a b:E} {pa pb:Expr} {p:Pos} (h0:bu pb=false) (ha:SE C k sc a pa) (hb:SE C k sc b pb):ST C k sc (.cmp op a b) (.Compare pa [op] [pb] p):=fun env A s γ ρ st Q X hs hr I F w=>
 wpAny_isTrue_Compare1 (ha.at hs hr (At.start I F) w fun ma s₁ va st₁ ρ₁ w₁ r₁ a₁ S₁=>hb.at hs hr a₁ w₁ fun mb s₂ vb st₂ ρ₂ w₂ r₂ a₂ S₂=>by
  obtain ⟨v,e,b,hb,hQ⟩:=w₂
  cases hb
  exact wpAny_mono (ed a₂.inv hr.cmp e (r₁.kept S₂.kept) r₂) (fun _ _ p=>by obtain ⟨rfl,tk,rfl⟩:=p; have a₂:=a₂.grew (.toks _ tk); exact wpAny_truthy_bool ⟨st₂,ρ₂,hQ,a₂.same,a₂.inv,a₂.stp⟩) fun _ _ x=>x) (dH h0)
theorem uN {op op':CmpOp} {a b c:E} {pa pb pc:Expr} {p:Pos} (h0:bu pc=false) (ha:SE C k sc a pa) (hb:SE C k sc b pb) (hc:SE C k sc c pc):SE C k sc (.cmp2 op op' a b c) (.Compare pa [op,op'] [pb,pc] p):=fun env A s γ ρ st Q X hs hr I F w=>
 Compare_chain (ha.at hs hr (At.start I F) w fun ma s₁ va st₁ ρ₁ w₁ r₁ a₁ S₁=>chain_link (hb.at hs hr a₁ w₁ fun mb s₂ vb st₂ ρ₂ w₂ r₂ a₂ S₂=>by
  obtain ⟨v,e,hQ⟩:=w₂
  refine wpAny_mono (ed a₂.inv hr.cmp e (r₁.kept S₂.kept) r₂) (fun mv s' p=>?_) fun _ _ x=>x
  obtain ⟨rfl,tk,rfl⟩:=p
  have a₂:=a₂.grew (.toks _ tk)
  refine wpAny_truthy_bool ?_
  rcases hQ with ⟨rfl,hQ⟩ | ⟨rfl,hQ⟩
  ·exact chain_last (hc.at hs hr a₂ hQ fun mc s₄ vc st₄ ρ₄ w₄ r₄ a₄ S₄=>by
    obtain ⟨v',e',hQ'⟩:=w₄
    exact wpAny_mono (ed a₄.inv hr.cmp e' (r₂.kept S₄.kept) r₄) (fun _ _ p=>by obtain ⟨rfl,tk,rfl⟩:=p; exact (a₄.grew (.toks _ tk)).post hQ' (.bool _)) fun _ _ x=>x)
  ·exact a₂.post hQ (.bool _))) (iP h0)
theorem uo {op op':CmpOp} {a b c:E} {pa pb pc:Expr} {p:Pos} (h0:bu pc=false) (ha:SE C k sc a pa) (hb:SE C k sc b pb) (hc:SE C k sc c pc):ST C k sc (.cmp2 op op' a b c) (.Compare pa [op,op'] [pb,pc] p):=fun env A s γ ρ st Q X hs hr I F w=>
 isTrue_chain (ha.at hs hr (At.start I F) w fun ma s₁ va st₁ ρ₁ w₁ r₁ a₁ S₁=>test_link (hb.at hs hr a₁ w₁ fun mb s₂ vb st₂ ρ₂ w₂ r₂ a₂ S₂=>by
  obtain ⟨v,e,hQ⟩:=w₂
  refine wpAny_mono (ed a₂.inv hr.cmp e (r₁.kept S₂.kept) r₂) (fun mv s' p=>?_) fun _ _ x=>x
  obtain ⟨rfl,tk,rfl⟩:=p
  have a₂:=a₂.grew (.toks _ tk)
  refine wpAny_truthy_bool ?_
  rcases hQ with ⟨rfl,hQ⟩ | ⟨rfl,b,hb,hQ⟩
  ·exact test_last (hc.at hs hr a₂ hQ fun mc s₄ vc st₄ ρ₄ w₄ r₄ a₄ S₄=>by
    obtain ⟨v',e',b,hb,hQ'⟩:=w₄
    cases hb
    exact wpAny_mono (ed a₄.inv hr.cmp e' (r₂.kept S₄.kept) r₄) (fun _ _ p=>by obtain ⟨rfl,tk,rfl⟩:=p; have a₄:=a₄.grew (.toks _ tk); exact wpAny_truthy_bool ⟨st₄,ρ₄,hQ',a₄.same,a₄.inv,a₄.stp⟩) fun _ _ x=>x)
  ·cases hb; exact ⟨st₂,ρ₂,hQ,a₂.same,a₂.inv,a₂.stp⟩)) (iP h0)
theorem rT {e:E} {pe:Expr} (he:SE C k sc e pe) (hp: ∀ env (whole:Sem Value),isTrue pe env whole=(do let v ← whole; standAt pe.pos; holding [v] (truthy v))):ST C k sc e pe:=fun env A s γ ρ st Q X hs hr I F w=>
 isTrue_plain (he.at hs hr (At.start I F) w fun mv s₁ v st₁ ρ₁ w₁ r₁ a₁ S₁=>by
  obtain ⟨b,rfl,w₁⟩:=w₁
  obtain rfl:=r₁.bool_inv
  exact wpAny_truthy_bool ⟨st₁,ρ₁,w₁,a₁.same,a₁.inv,a₁.stp⟩) (hp _ _)
theorem xk {a:E} {pa:Expr} {p:Pos} (ha:ST C k sc a pa):ST C k sc (.not a) (.UnaryOp .Not pa p):=fun env A s γ ρ st Q X hs hr I F w=>by
 refine isTrue_not (ha.at (W:=fun b st=>Q (!b) st) hs hr (At.start I F) ?_ fun b s₁ st₁ ρ₁ w₁ a₁ S₁=>⟨st₁,ρ₁,w₁,a₁.same,a₁.inv,a₁.stp⟩)
 have e:(fun (v:V) (st:St)=>∃ b,v=.bool b∧∃ b',V.bool (!b)=.bool b'∧Q b' st)=fun v st=>∃ b,v=.bool b∧Q (!b) st:=by
  funext v st
  exact propext ⟨fun ⟨b,h1,b',h2,h3⟩=>⟨b,h1,by cases h2; exact h3⟩,fun ⟨b,h1,h2⟩=>⟨b,h1,_,rfl,h2⟩⟩
 show wE (Calls C k) C.glo a st (fun (v:V) (st:St)=>∃ b,v=.bool b∧Q (!b) st) X
 rw [← e]; exact w
inductive ld (P:E→Expr→Prop):Es→List Expr→Prop
 | nil:ld P .nil []
 | cons {e:E} {pe:Expr} {es:Es} {pes:List Expr}:P e pe→ld P es pes→ld P (.cons e es) (pe::pes)
theorem ld.map {P P':E→Expr→Prop} (h: ∀ e pe,P e pe→P' e pe) {es:Es} {pes:List Expr} (x:ld P es pes):ld P' es pes:=by
 induction x with
 | nil=>exact .nil
 | cons a _ ih=>exact .cons (h _ _ a) ih
theorem cj {pe:Expr} {rest:List Expr} {env:Env} (h:aW pe=true):starEach (pe::rest) env=(false,eval pe env)::starEach rest env:=by
 cases pe<;>first | rfl | cases h
theorem dj {env:Env} {pos:Pos}: ∀ {pes:List Expr},(∀ pe∈pes,aW pe=true)→(backTo pos (starEach pes env)).any (·.1)=false
 | [],_=>rfl
 | pe::r,h=>by
  rw [cj (h pe List.mem_cons_self)]
  have:=dj (env:=env) (pos:=pos) (pes:=r) fun p q=>h p (List.mem_cons_of_mem _ q)
  simpa [backTo] using this
theorem xy {es:Es} {pes:List Expr} (h:ld (fun e pe=>SE C k sc e pe∧aW pe=true) es pes):SEs C k sc es pes:=by
 induction h with
 | nil=>exact ⟨fun _ h=>absurd h List.not_mem_nil,fun _ _ _ _ _ _ _ _ _ _ _ I _ w=>Calls.spliced_nil ⟨rfl,[],_,_,w,rfl,.nil,I,.refl ..⟩⟩
 | cons he _ ih=>
  refine ⟨fun p q=>(List.mem_cons.mp q).elim (fun e=>e▸he.2) (ih.1 p),fun pos env A s γ ρ st Q X hs hr I F w=>?_⟩
  refine args_cons (he.1.at hs hr (At.start I F) w fun mv s₁ v st₁ ρ₁ w₁ r₁ a₁ S₁=>ih.at hs hr a₁ w₁ fun ms s₂ vs st₂ ρ₂ hn w₂ r₂ a₂ S₂=>?_) (cj he.2)
  exact ⟨congrArg Nat.succ hn,_,st₂,ρ₂,w₂,a₂.same,.cons (r₁.kept S₂.kept) r₂,a₂.inv,a₂.stp⟩
theorem aI.len_le {h:Heap} {ρ:List Addr} {N:Addr→Prop} {vs:List V} {ms:List Value} (r:aI h ρ N vs ms) {n:Nat} (h:ms.length≤n):vs.length≤n:=by rw [r.length]; exact h
theorem xA {es:Es} {pes:List Expr} {u:Nat} {p:Pos} (hl:pes.length≤1000) (hes:SEs C k sc es pes):SE C k sc (.tup es) (.Tuple pes u p):=fun env A s γ ρ st Q X hs hr I F w=>
 Tuple_ (hes.at hs hr (At.start I F) w fun ms s₁ vs st₁ ρ₁ hn w₁ r₁ a₁ S₁=>wpAny_mono (eH a₁.inv r₁ (r₁.len_le (Nat.le_trans (Nat.le_of_eq hn) (Nat.le_trans hl (by decide))))) (fun _ _ p=>a₁.grewP w₁ p) fun _ _ x=>x)
theorem uH {es:Es} {pes:List Expr} {p:Pos} (hl:pes.length≤1000) (hes:SEs C k sc es pes):SE C k sc (.list es) (.List pes p):=fun env A s γ ρ st Q X hs hr I F w=>
 List_ (hes.at hs hr (At.start I F) w fun ms s₁ vs st₁ ρ₁ hn w₁ r₁ a₁ S₁=>wpAny_mono (kA r₁ (r₁.len_le (Nat.le_trans (Nat.le_of_eq hn) (Nat.le_trans hl (by decide))))) (fun _ _ p=>a₁.newP w₁ p) fun _ _ x=>x)
theorem xO {pos:Pos} {es:Es} {pes:List Expr} (h:ld (SE C k sc) es pes) (hne:pes≠[]):SE C k sc (.and es) (.BoolOp .And pes pos):=fun env A s γ ρ st Q X hs hr I F w=>by
 have key: ∀ {es:Es} {pes:List Expr} {ρ':List Addr} {st':St} {s':Shared},ld (SE C k sc) es pes→pes≠[]→At C γ env ρ st s ρ' st' s'→wG (Calls C k) C.glo es st' Q X→wpAny C.M A (eval (.BoolOp .And pes pos) env) (eh C γ ρ st s Q) (bj C γ ρ st s X) s':=fun {es pes ρ' st' s'} h=>by
  induction h generalizing ρ' st' s' with
  | nil=>exact fun h=>absurd rfl h
  | cons he hr' ih=>
   intro _ a w
   cases hr' with
   | nil=>exact BoolOp_one (he.at hs hr a w fun mv s₁ v st₁ ρ₁ w₁ r₁ a₁ S₁=>by
     obtain ⟨b,rfl,w₁⟩:=w₁
     rcases w₁ with ⟨rfl,w₁⟩ | ⟨rfl,w₁⟩<;>exact a₁.post w₁ r₁)
   | cons he' hr'=>exact BoolOp_and (he.at hs hr a w fun mv s₁ v st₁ ρ₁ w₁ r₁ a₁ S₁=>by
     obtain ⟨b,rfl,w₁⟩:=w₁
     obtain rfl:=r₁.bool_inv
     refine wpAny_truthy_bool ?_
     rcases w₁ with ⟨rfl,w₁⟩ | ⟨rfl,w₁⟩
     ·exact ih (by simp) a₁ w₁
     ·exact a₁.post w₁ (.bool _))
 exact key h hne (At.start I F) w
theorem AQ {pos:Pos} {es:Es} {pes:List Expr} (h:ld (SE C k sc) es pes) (hne:pes≠[]):SE C k sc (.or es) (.BoolOp .Or pes pos):=fun env A s γ ρ st Q X hs hr I F w=>by
 have key: ∀ {es:Es} {pes:List Expr} {ρ':List Addr} {st':St} {s':Shared},ld (SE C k sc) es pes→pes≠[]→At C γ env ρ st s ρ' st' s'→wOr (Calls C k) C.glo es st' Q X→wpAny C.M A (eval (.BoolOp .Or pes pos) env) (eh C γ ρ st s Q) (bj C γ ρ st s X) s':=fun {es pes ρ' st' s'} h=>by
  induction h generalizing ρ' st' s' with
  | nil=>exact fun h=>absurd rfl h
  | cons he hr' ih=>
   intro _ a w
   cases hr' with
   | nil=>exact BoolOp_one (he.at hs hr a w fun mv s₁ v st₁ ρ₁ w₁ r₁ a₁ S₁=>by
     obtain ⟨b,rfl,w₁⟩:=w₁
     rcases w₁ with ⟨rfl,w₁⟩ | ⟨rfl,w₁⟩<;>exact a₁.post w₁ r₁)
   | cons he' hr'=>exact BoolOp_or (he.at hs hr a w fun mv s₁ v st₁ ρ₁ w₁ r₁ a₁ S₁=>by
     obtain ⟨b,rfl,w₁⟩:=w₁
     obtain rfl:=r₁.bool_inv
     refine wpAny_truthy_bool ?_
     rcases w₁ with ⟨rfl,w₁⟩ | ⟨rfl,w₁⟩
     ·exact a₁.post w₁ (.bool _)
     ·exact ih (by simp) a₁ w₁)
 exact key h hne (At.start I F) w
theorem xm {pos:Pos} {es:Es} {pes:List Expr} (h:ld (ST C k sc) es pes):ST C k sc (.and es) (.BoolOp .And pes pos):=fun env A s γ ρ st Q X hs hr I F w=>by
 have key: ∀ {es:Es} {pes:List Expr} {whole:Sem Value} {ρ':List Addr} {st':St} {s':Shared},ld (ST C k sc) es pes→At C γ env ρ st s ρ' st' s'→wG (Calls C k) C.glo es st' (fun v st=>∃ b,v=.bool b∧Q b st) X→wpAny C.M A (isTrue (.BoolOp .And pes pos) env whole) (wB C γ ρ st s Q) (bj C γ ρ st s X) s':=fun {es pes whole ρ' st' s'} h=>by
  induction h generalizing whole ρ' st' s' with
  | nil=>exact fun a ⟨b,hb,w⟩=>by cases hb; exact PyProof.Rows.isTrue_and_nil ⟨_,_,w,a.same,a.inv,a.stp⟩
  | @cons e pe es pes he hr' ih=>
   exact fun a w=>PyProof.Rows.isTrue_and (he.at (W:=fun b st=>(b=true∧wG (Calls C k) C.glo es st (fun v st=>∃ b,v=.bool b∧Q b st) X)∨(b=false∧∃ b,V.bool false=.bool b∧Q b st)) hs hr a w fun b s₁ st₁ ρ₁ w₁ a₁ S₁=>by
    rcases w₁ with ⟨rfl,w₁⟩ | ⟨rfl,b,hb,w₁⟩
    ·exact ih a₁ w₁
    ·cases hb; exact ⟨st₁,ρ₁,w₁,a₁.same,a₁.inv,a₁.stp⟩)
 exact key h (At.start I F) w
theorem AO {pos:Pos} {es:Es} {pes:List Expr} (h:ld (ST C k sc) es pes):ST C k sc (.or es) (.BoolOp .Or pes pos):=fun env A s γ ρ st Q X hs hr I F w=>by
 have key: ∀ {es:Es} {pes:List Expr} {whole:Sem Value} {ρ':List Addr} {st':St} {s':Shared},ld (ST C k sc) es pes→At C γ env ρ st s ρ' st' s'→wOr (Calls C k) C.glo es st' (fun v st=>∃ b,v=.bool b∧Q b st) X→wpAny C.M A (isTrue (.BoolOp .Or pes pos) env whole) (wB C γ ρ st s Q) (bj C γ ρ st s X) s':=fun {es pes whole ρ' st' s'} h=>by
  induction h generalizing whole ρ' st' s' with
  | nil=>exact fun a ⟨b,hb,w⟩=>by cases hb; exact PyProof.Rows.isTrue_or_nil ⟨_,_,w,a.same,a.inv,a.stp⟩
  | @cons e pe es pes he hr' ih=>
   exact fun a w=>PyProof.Rows.isTrue_or (he.at (W:=fun b st=>(b=true∧∃ b,V.bool true=.bool b∧Q b st)∨(b=false∧wOr (Calls C k) C.glo es st (fun v st=>∃ b,v=.bool b∧Q b st) X)) hs hr a w fun b s₁ st₁ ρ₁ w₁ a₁ S₁=>by
    rcases w₁ with ⟨rfl,b,hb,w₁⟩ | ⟨rfl,w₁⟩
    ·cases hb; exact ⟨st₁,ρ₁,w₁,a₁.same,a₁.inv,a₁.stp⟩
    ·exact ih a₁ w₁)
 exact key h (At.start I F) w
theorem fW {va:V} {ma:Value} {lo hi:Option Int} {ml mu:Value} {Q:V→St→Prop} {value slice:Expr} (a:At C γ env ρ₀ st₀ s₀ ρ st s) (ra:Rel s.heap ρ (Nl γ ρ st.H) va ma) (p1:la (lo.map .int) ml lo) (p2:la (hi.map .int) mu hi) (w:wI va lo hi st Q):
  wpAny C.M A (subscriptTail value slice ma (.ref s.heap.objs.size)) (eh C γ ρ₀ st₀ s₀ Q) (bj C γ ρ₀ st₀ s₀ X) { s with heap:=s.heap.push { cls:=.type "slice",data:=.fields #[ml,mu,.none]}}:=by
 rcases w with ⟨cs,rfl,w⟩ | ⟨xs,e,w⟩
 ·obtain ⟨t,rfl,hlen,ha⟩:=ra.str_inv
  exact wpAny_mono (iq (ρ:=ρ) (H:=st.H) hlen ha p1 p2) (fun mv s' p=>(a.grew p.2).post w (p.1.kept p.2.stp.kept)) fun _ _ x=>x
 ·obtain ⟨b,ms,rfl,hl,hr,hlen⟩:=a.inv.view ra e
  exact wpAny_mono (gL hl hr hlen p1 p2) (fun _ _ p=>a.newP w p) fun _ _ x=>x
noncomputable def BD (C:Cx) (k:Nat) (sc:Scope) (e:E) (o:Option Expr):Prop:=(o=none∧e.isOmit=true)∨(e.isOmit=false∧∃ pe,o=some pe∧SE C k sc e pe)
theorem eL:la ((none:Option Int).map V.int) Value.none none:=.inl ⟨rfl,rfl,rfl⟩
theorem fZ (i:Int) (t:Tok):la ((some i).map V.int) (.int i t) (some i):=.inr ⟨i,t,rfl,rfl,rfl⟩
theorem tf {b:Bool} {P:Prop} (h:b=true) (h':b=false):P:=by rw [h] at h'; cases h'
theorem xC {a lo hi:E} {pa:Expr} {pl ph:Option Expr} {p q:Pos} (ha:SE C k sc a pa) (hl:BD C k sc lo pl) (hh:BD C k sc hi ph):SE C k sc (.slc a lo hi) (.Subscript pa (.Slice pl ph none q) p):=fun env A s γ ρ st Q X hs hr I F w=>
 Subscript_ (ha.at hs hr (At.start I F) w fun ma s₁ va st₁ ρ₁ w₁ r₁ a₁ S₁=>wpAny_Slice (by
  rcases hl with ⟨rfl,hl⟩ | ⟨hl,pe,rfl,hl'⟩
  ·obtain ⟨_,w₁⟩:=w₁.resolve_right fun z=>tf hl z.1
   rw [evalPart_none]
   refine wpAny_pure ?_
   rcases hh with ⟨rfl,hh⟩ | ⟨hh,pe,rfl,hh'⟩
   ·obtain ⟨_,w₁⟩:=w₁.resolve_right fun z=>tf hh z.1
    rw [evalPart_none]
    exact wpAny_pure (wpAny_pure (fW a₁ r₁ eL eL w₁))
   ·obtain ⟨_,w₁⟩:=w₁.resolve_left fun z=>tf z.1 hh
    rw [evalPart_some]
    refine hh'.at hs hr a₁ w₁ fun mh s₂ vh st₂ ρ₂ w₂ r₂ a₂ S₂=>?_
    obtain ⟨j,rfl,w₂⟩:=w₂
    obtain ⟨t,rfl⟩:=r₂.int_inv
    exact wpAny_pure (fW a₂ (r₁.kept S₂.kept) eL (fZ j t) w₂)
  ·obtain ⟨_,w₁⟩:=w₁.resolve_left fun z=>tf z.1 hl
   rw [evalPart_some]
   refine hl'.at hs hr a₁ w₁ fun ml s₂ vl st₂ ρ₂ w₂ r₂ a₂ S₂=>?_
   obtain ⟨i,rfl,w₂⟩:=w₂
   obtain ⟨t,rfl⟩:=r₂.int_inv
   rcases hh with ⟨rfl,hh⟩ | ⟨hh,pe,rfl,hh'⟩
   ·obtain ⟨_,w₂⟩:=w₂.resolve_right fun z=>tf hh z.1
    rw [evalPart_none]
    exact wpAny_pure (wpAny_pure (fW a₂ (r₁.kept S₂.kept) (fZ i t) eL w₂))
   ·obtain ⟨_,w₂⟩:=w₂.resolve_left fun z=>tf z.1 hh
    rw [evalPart_some]
    refine hh'.at hs hr a₂ w₂ fun mh s₃ vh st₃ ρ₃ w₃ r₃ a₃ S₃=>?_
    obtain ⟨j,rfl,w₃⟩:=w₃
    obtain ⟨t',rfl⟩:=r₃.int_inv
    exact wpAny_pure (fW a₃ ((r₁.kept S₂.kept).kept S₃.kept) (fZ i t) (fZ j t') w₃)))
end
end
noncomputable section
open PySem PyProof.Rows
section
variable {α:Type} {le:α→α→Bool} {l:List α}
theorem kU {p q:α→Bool}: ∀ {l:List α},(∀ z∈l,p z=true→q z=true)→∀ x∈l,q x=true→p x=false→l.countP p < l.countP q
 | [],_,_,h,_,_=>absurd h List.not_mem_nil
 | y::l,h,x,hx,hq,hp=>by
  have hle:l.countP p≤l.countP q:=List.countP_mono_left fun z hz=>h z (List.mem_cons_of_mem _ hz)
  rcases List.mem_cons.mp hx with rfl | hx
  ·rw [List.countP_cons_of_neg (by rw [hp]; exact Bool.false_ne_true),List.countP_cons_of_pos hq]; exact Nat.lt_succ_of_le hle
  ·have ih:=kU (fun z hz=>h z (List.mem_cons_of_mem _ hz)) x hx hq hp
   by_cases e:p y=true
   ·rw [List.countP_cons_of_pos e,List.countP_cons_of_pos (h y List.mem_cons_self e)]; exact Nat.succ_lt_succ ih
   ·rw [List.countP_cons_of_neg e]
    exact Nat.lt_of_lt_of_le ih (List.Sublist.countP_le (List.sublist_cons_self y l))
noncomputable def rank (le:α→α→Bool) (l:List α) (x:α):Int:=(l.countP fun z=>!le x z:Nat)
structure mn (le:α→α→Bool) (l:List α):Prop where
 tot: ∀ x∈l,∀ y∈l,le x y=true∨le y x=true
 tr: ∀ x∈l,∀ y∈l,∀ z∈l,le x y=true→le y z=true→le x z=true
 anti: ∀ x∈l,∀ y∈l,le x y=true→le y x=true→x=y
theorem mn.rank (O:mn le l) {x y:α} (hx:x∈l) (hy:y∈l):decide (rank le l x < rank le l y)= !le y x:=by
 unfold Mine.rank
 rw [Bool.eq_iff_iff,decide_eq_true_iff,Int.ofNat_lt,Bool.not_eq_true']
 constructor
 ·intro h
  cases e:le y x with
  | false=>rfl
  | true=>
   refine absurd h (Nat.not_lt.mpr (List.countP_mono_left fun z hz q=>?_))
   rw [Bool.not_eq_true'] at q ⊢
   cases e':le x z with
   | false=>rfl
   | true=>rw [O.tr y hy x hx z hz e e'] at q; cases q
 ·intro e
  refine kU (fun z hz q=>?_) x hx (by rw [e]; rfl) (by rw [(O.tot x hx x hx).elim id id]; rfl)
  rw [Bool.not_eq_true'] at q ⊢
  cases e':le y z with
  | false=>rfl
  | true=>
   have:=(O.tot x hx z hz).resolve_left (by rw [q]; exact Bool.false_ne_true)
   rw [O.tr y hy z hz x hx e' this] at e; cases e
theorem mn.le_of (O:mn le l) {x y:α} (hx:x∈l) (hy:y∈l) (h:Mine.rank le l x≤Mine.rank le l y):le x y=true:=by
 have:=O.rank hy hx
 rw [decide_eq_false (Int.not_lt.mpr h)] at this
 rwa [Bool.false_eq,Bool.not_eq_false'] at this
end
theorem aI.perm {h:Heap} {ρ:List Addr} {N:Addr→Prop} {out ms:List Value} (p:out.Perm ms): ∀ {xs:List V},aI h ρ N xs ms→∃ zs:List V,zs.Perm xs∧aI h ρ N zs out:=by
 induction p with
 | nil=>exact fun r=>⟨_,.refl _,r⟩
 | cons a _ ih=>
  intro xs r
  cases r with
  | cons b r=>obtain ⟨zs,h1,h2⟩:=ih r; exact ⟨_,h1.cons _,.cons b h2⟩
 | swap a b l=>
  intro xs r
  cases r with
  | cons x r=>cases r with | cons y r=>exact ⟨_,.swap ..,.cons y (.cons x r)⟩
 | trans _ _ ih1 ih2=>
  intro xs r
  obtain ⟨zs,h1,h2⟩:=ih2 r
  obtain ⟨us,h3,h4⟩:=ih1 h2
  exact ⟨us,h3.trans h1,h4⟩
section
variable {C:Cx} {A:Around} {E:Value→Shared→Prop} {s:Shared} {ρ:List Addr} {N:Addr→Prop}
structure wA (C:Cx) (s:Shared) (ρ:List Addr) (N:Addr→Prop) (kd:SortKind) (xs:List V) (ms:List Value):Prop where
 ord:mn leV xs
 uni: ∀ v∈xs,∀ v'∈xs,∀ m,Rel s.heap ρ N v m→Rel s.heap ρ N v' m→v=v'
 kind: ∀ (A:Around) (E:Value→Shared→Prop) (s':Shared),(∀ b o,s.heap.get? b=some o→s'.heap.get? b=some o)→2≤ms.length→wpAny C.M A (keyKind' ms.toArray) (fun k s''=>k=kd∧s''=s') E s'
 less: ∀ (A:Around) (E:Value→Shared→Prop) (s':Shared) (Q:Bool→Shared→Prop),A.units < cLine→(∀ b o,s.heap.get? b=some o→s'.heap.get? b=some o)→∀ v∈xs,∀ v'∈xs,∀ m m',Rel s.heap ρ N v m→Rel s.heap ρ N v' m'→Q (!leV v' v) s'→wpAny C.M A (keyLt' kd m m') Q E s'
theorem iH {a:Addr} {xs:List V} {ms:List Value} (hl:s.heap.PlainList a ms.toArray) (r:aI s.heap ρ N xs ms) (hlen:xs.length≤1000000) (R:List Value→Shared→Prop) (h: ∀ ms h' tk,(∀ b o,s.heap.get? b=some o→h'.get? b=some o)→aI s.heap ρ N xs ms→R ms { s with heap:=h',toks:=tk }):wpAny C.M A (collect (.ref a)) R E s:=by
 refine collect_list hl.isList (h _ _ s.toks (fun b o hb=>?_) r) (by rw [← r.length,sizeLine_eq]; exact lin [_] [(1,.v 0,.n 1000000)] 1 (.v 0) (.n 16777216) rfl hlen)
 rw [Heap.get?_update_ne _ _ _ _ (Nat.ne_of_lt (Heap.lt_size hb))]
 exact Heap.get?_push_of_some _ hb
open Classical in
theorem fI {x:Value} {xs ys:List V} {kd:SortKind} (hc: ∀ R:List Value→Shared→Prop,(∀ ms h' tk,(∀ b o,s.heap.get? b=some o→h'.get? b=some o)→aI s.heap ρ N xs ms→R ms { s with heap:=h',toks:=tk })→wpAny C.M A.in1 (collect x) R E s)
  (hu:A.units+2 < cLine) (S: ∀ ms,aI s.heap ρ N xs ms→wA C s ρ N kd xs ms) (hlen:xs.length≤1000000) (hp:ys.Perm xs) (hs:ys.Pairwise fun a b=>leV a b=true):
  wpAny C.M A (call (.builtin "sorted") [x]) (cF s ρ N ys) E s:=by
 let val:Value→V:=fun m=>if h: ∃ v∈xs,Rel s.heap ρ N v m then Classical.choose h else .none
 refine pK (kd:=kd) (κ:=fun m=>rank leV xs (val m)) hc (fun ms r=>by rw [← r.length]; exact lin [_] [(1,.v 0,.n 1000000)] 1 (.v 0) (.n 16000000) rfl hlen) (fun ms r s' k h2=>(S ms r).kind _ _ s' k h2) (fun ms r s' k x y hx hy st Q hk hq=>?_) fun ms out h' tk a r p q kp hf ho=>?_
 all_goals
  have S:=S ms r
  have hv: ∀ v∈xs,∀ m,Rel s.heap ρ N v m→val m=v:=fun v hv m q=>by
   have h: ∃ v∈xs,Rel s.heap ρ N v m:=⟨v,hv,q⟩
   show (if h: ∃ v∈xs,Rel s.heap ρ N v m then Classical.choose h else .none)=v
   rw [dif_pos h]
   exact S.uni _ (Classical.choose_spec h).1 v hv m (Classical.choose_spec h).2 q
 ·have hm: ∀ m∈ms,∃ v∈xs,Rel s.heap ρ N v m:=fun m q=>by
   obtain ⟨i,e⟩:=List.mem_iff_getElem?.mp q
   obtain ⟨v,e1,e2⟩:=r.get' e
   exact ⟨v,List.mem_of_getElem? e1,e2⟩
  rw [pairsOf_toList] at hx hy
  obtain ⟨v,hv1,r1⟩:=hm _ (mem_zip_self hx).2
  obtain ⟨u,hu1,r2⟩:=hm _ (mem_zip_self hy).2
  rw [lt'_eq]
  refine wpS_bind (wpS_get ?_)
  rw [hk]
  refine wpS_bind (wpS_lift (wpAny_attempt (S.less _ _ s' _ hu k v hv1 u hu1 _ _ r1 r2 ⟨rfl,wpS_pure ?_⟩)))
  rw [← S.ord.rank hv1 hu1,← hv v hv1 _ r1,← hv u hu1 _ r2]
  exact hq
 ·obtain ⟨zs,p',r'⟩:=r.perm p
  have e:zs=ys:=by
   refine (p'.trans hp.symm).eq_of_pairwise (le:=fun a b=>leV a b=true) (fun x y hx hy=>S.ord.anti x (p'.mem_iff.mp hx) y (hp.mem_iff.mp hy)) ?_ hs
   rw [List.pairwise_iff_getElem]
   intro i j hi hj hij
   have gi:zs[i]∈xs:=p'.mem_iff.mp (List.getElem_mem _)
   have gj:zs[j]∈xs:=p'.mem_iff.mp (List.getElem_mem _)
   obtain ⟨m,e1,r1⟩:=r'.get (List.getElem?_eq_getElem hi)
   obtain ⟨m',e2,r2⟩:=r'.get (List.getElem?_eq_getElem hj)
   obtain ⟨hi',q1⟩:=List.getElem?_eq_some_iff.mp e1
   obtain ⟨hj',q2⟩:=List.getElem?_eq_some_iff.mp e2
   have:=List.pairwise_iff_getElem.mp q i j hi' hj' hij
   rw [q1,q2,hv _ gi _ r1,hv _ gj _ r2] at this
   exact S.ord.le_of gi gj this
  subst e
  obtain ⟨e,he⟩:=ho
  refine ⟨_,out.toList,rfl,hf,⟨kp,rfl,rfl⟩,⟨e,by simpa [seqObj] using he⟩,r',?_⟩
  rw [hp.length_eq]; unfold au; exact lin [_] [(1,.v 0,.n 1000000)] 1 (.v 0) (.n 16777216) rfl hlen
end
end
noncomputable section
open PySem PyProof.Rows PySem.W
section
variable {C:Cx} {s:Shared} {ρ:List Addr} {N:Addr→Prop}
theorem fK (a b c d:Int):leV (.tup [.int a,.int b]) (.tup [.int c,.int d])=decide (a < c∨a=c∧b≤d):=by
 show (if (a == c)=true then (if (b == d)=true then true else decide (b≤d)) else decide (a≤c))=_
 by_cases h:a=c
 ·subst h
  rw [if_pos (beq_self_eq_true a)]
  by_cases h':b=d
  ·subst h'; rw [if_pos (beq_self_eq_true b)]; simp
  ·rw [if_neg (by simpa using h')]; simp
 ·rw [if_neg (by simpa using h)]
  rw [decide_eq_decide]
  constructor
  ·intro q; exact .inl (Int.lt_iff_le_and_ne.mpr ⟨q,h⟩)
  ·rintro (q | q)
   ·exact Int.le_of_lt q
   ·exact absurd q.1 h
theorem vQ {a d:Int} {P Q:Prop} (h:P∨Q):(a < d∨a=d∧P)∨(d < a∨d=a∧Q):=by
 rcases Int.lt_trichotomy a d with z | z | z
 ·exact .inl (.inl z)
 ·exact h.elim (fun h=>.inl (.inr ⟨z,h⟩)) fun h=>.inr (.inr ⟨z.symm,h⟩)
 ·exact .inr (.inl z)
theorem yK {a d g:Int} {P Q R:Prop} (h:P→Q→R) (p:a < d∨a=d∧P) (q:d < g∨d=g∧Q):a < g∨a=g∧R:=by
 rcases p with p | ⟨rfl,p⟩
 ·exact .inl (q.elim (Int.lt_trans p) fun q=>q.1▸p)
 ·exact q.imp_right fun q=>⟨q.1,h p q.2⟩
theorem sF {a d:Int} {P Q:Prop} (p:a < d∨a=d∧P) (q:d < a∨d=a∧Q):a=d∧P∧Q:=by
 rcases p with p | ⟨rfl,p⟩
 ·exact absurd p (q.elim (fun q=>Int.lt_asymm q) fun q=>q.1▸Int.lt_irrefl _)
 ·exact ⟨rfl,p,q.elim (fun q=>absurd q (Int.lt_irrefl _)) (·.2)⟩
theorem yL {a d:Int} {P:Prop} (h: ¬ a=d): ¬ (d < a∨d=a∧P) ↔ a < d:=
 ⟨fun z=>(Int.lt_or_gt_of_ne h).resolve_right fun q=>z (.inl q),fun z q=>q.elim (Int.lt_asymm z) fun q=>h q.1.symm⟩
theorem yM {a d:Int} {P R:Prop} (h:a=d) (k: ¬ P ↔ R): ¬ (d < a∨d=a∧P) ↔ R:=
 ⟨fun z=>k.mp fun q=>z (.inr ⟨h.symm,q⟩),fun z q=>q.elim (fun q=>Int.lt_irrefl _ (h▸q)) fun q=>k.mpr z q.2⟩
theorem qg {xs:List V} (h: ∀ v∈xs,∃ i j,v=.tup [.int i,.int j]):mn leV xs:=by
 refine ⟨fun x hx y hy=>?_,fun x hx y hy z hz=>?_,fun x hx y hy=>?_⟩
 ·obtain ⟨a,b,rfl⟩:=h x hx
  obtain ⟨c,d,rfl⟩:=h y hy
  rw [fK,fK,decide_eq_true_iff,decide_eq_true_iff]; exact vQ (Int.le_total b d)
 ·obtain ⟨a,b,rfl⟩:=h x hx
  obtain ⟨c,d,rfl⟩:=h y hy
  obtain ⟨e,f,rfl⟩:=h z hz
  rw [fK,fK,fK,decide_eq_true_iff,decide_eq_true_iff,decide_eq_true_iff]; exact yK Int.le_trans
 ·obtain ⟨a,b,rfl⟩:=h x hx
  obtain ⟨c,d,rfl⟩:=h y hy
  rw [fK,fK,decide_eq_true_iff,decide_eq_true_iff]
  intro p q
  obtain ⟨rfl,p,q⟩:=sF p q
  rw [Int.le_antisymm p q]
theorem dG (a b:List Nat):leV (.str a) (.str b)=decide (a≤b):=rfl
theorem oq {xs:List V} (h: ∀ v∈xs,∃ i,v=.str i):mn leV xs:=by
 refine ⟨fun x hx y hy=>?_,fun x hx y hy z hz=>?_,fun x hx y hy=>?_⟩
 ·obtain ⟨a,rfl⟩:=h x hx
  obtain ⟨b,rfl⟩:=h y hy
  rw [dG,dG,decide_eq_true_iff,decide_eq_true_iff]; exact List.le_total a b
 ·obtain ⟨a,rfl⟩:=h x hx
  obtain ⟨b,rfl⟩:=h y hy
  obtain ⟨c,rfl⟩:=h z hz
  rw [dG,dG,dG,decide_eq_true_iff,decide_eq_true_iff,decide_eq_true_iff]; exact List.le_trans
 ·obtain ⟨a,rfl⟩:=h x hx
  obtain ⟨b,rfl⟩:=h y hy
  rw [dG,dG,decide_eq_true_iff,decide_eq_true_iff]; exact fun p q=>congrArg _ (List.le_antisymm p q)
theorem oi {xs:List V} {ms:List Value} (r:aI s.heap ρ N xs ms) (h: ∀ v∈xs,∃ i,v=.str i):wA C s ρ N oneType' xs ms:=by
 refine ⟨oq h,fun v hv v' hv' m q q'=>?_,fun A E s' k h2=>?_,fun A E s' Q _ k v hv v' hv' m m' q q' hQ=>?_⟩
 ·obtain ⟨a,rfl⟩:=h v hv
  obtain ⟨b,rfl⟩:=h v' hv'
  obtain ⟨t,e,_⟩:=q.str_inv
  obtain ⟨u,e',_⟩:=q'.str_inv
  rw [e] at e'
  have e2:=(Value.str.inj e').1
  have:a.toArray=b.toArray:=congrArg Str.cps e2
  rw [show a=b by simpa using this]
 ·have ia:StrsAre ms (ms.map strOf):=strsAre_map ms fun m hm=>by
   obtain ⟨i,e⟩:=List.mem_iff_getElem?.mp hm
   obtain ⟨v,e1,e2⟩:=r.get' e
   obtain ⟨a,rfl⟩:=h v (List.mem_of_getElem? e1)
   obtain ⟨t,e3,_⟩:=e2.str_inv
   exact ⟨_,t,e3⟩
  match ms,h2,ia with
  | v₁::v₂::rest,_,ia=>rw [keyKind_strs ia]; exact wpAny_pure ⟨rfl,rfl⟩
 ·obtain ⟨a,rfl⟩:=h v hv
  obtain ⟨b,rfl⟩:=h v' hv'
  obtain ⟨t,rfl,_⟩:=q.str_inv
  obtain ⟨u,rfl,_⟩:=q'.str_inv
  rw [keyLt'_oneType]
  refine oneLt_str ?_
  rw [dG,← decide_not] at hQ
  rwa [show decide ((⟨a.toArray⟩:Str).cps.toList < (⟨b.toArray⟩:Str).cps.toList)=decide (¬ b≤a) from decide_eq_decide.mpr List.not_le.symm]
theorem xi {h:Heap} {x y:Int} {m:Value} (q:Rel h ρ N (.tup [.int x,.int y]) m): ∃ a o t u n,m=.ref a∧h.get? a=some o∧o.cls=.type "tuple" ∧o.data=.seq #[.int x t,.int y u] n:=by
 obtain ⟨a,ms,rfl,ht,_,_,r⟩:=q.tup_inv
 obtain ⟨m1,r1,rfl,q1,r⟩:=r.cons_inv
 obtain ⟨m2,r2,rfl,q2,r⟩:=r.cons_inv
 obtain rfl:=r.nil_inv
 obtain ⟨t,rfl⟩:=q1.int_inv
 obtain ⟨u,rfl⟩:=q2.int_inv
 obtain ⟨o,ho,hc,n,hd⟩:=ht
 exact ⟨a,o,t,u,n,rfl,ho,hc,hd⟩
theorem vV {h:Heap} {xs:List V} {ms:List Value} (r:aI h ρ N xs ms):(∀ v∈xs,∃ i j,v=.tup [.int i,.int j])→∃ fs:List Value,KatTups h ms fs∧fs.length=ms.length∧∀ v∈fs,∃ i t,v=.int i t:=
 r.walk (L:=fun xs ms=>(∀ v∈xs,∃ i j,v=.tup [.int i,.int j])→∃ fs:List Value,KatTups h ms fs∧fs.length=ms.length∧∀ v∈fs,∃ i t,v=.int i t) (fun _=>⟨[],.nil,rfl,fun _ q=>absurd q List.not_mem_nil⟩) fun a _ ih hv=>by
  obtain ⟨i,j,rfl⟩:=hv _ List.mem_cons_self
  obtain ⟨ad,o,t,u,n,rfl,ho,hc,hd⟩:=xi a
  obtain ⟨fs,h1,h2,h3⟩:=ih fun v q=>hv v (List.mem_cons_of_mem _ q)
  refine ⟨.int i t::fs,.cons ho hc hd rfl h1,congrArg Nat.succ h2,fun v q=>?_⟩
  rcases List.mem_cons.mp q with rfl | q
  ·exact ⟨i,t,rfl⟩
  ·exact h3 v q
theorem pJ {xs:List V} {ms:List Value} (r:aI s.heap ρ N xs ms) (h: ∀ v∈xs,∃ i j,v=.tup [.int i,.int j]):wA C s ρ N (tuples' true) xs ms:=by
 refine ⟨qg h,fun v hv v' hv' m q q'=>?_,fun A E s' k h2=>?_,fun A E s' Q _ k v hv v' hv' m m' q q' hQ=>?_⟩
 ·obtain ⟨a,b,rfl⟩:=h v hv
  obtain ⟨c,d,rfl⟩:=h v' hv'
  obtain ⟨ad,o,t,u,n,rfl,ho,_,hd⟩:=xi q
  obtain ⟨ad',o',t',u',n',e,ho',_,hd'⟩:=xi q'
  cases e
  rw [ho] at ho'; cases ho'
  rw [hd] at hd'; cases hd'; rfl
 ·obtain ⟨fs,h1,h3,h4⟩:=vV r h
  have t:KatTups s'.heap ms fs:=by
   clear h2 h3 h4 r
   induction ms generalizing fs with
   | nil=>cases fs with | nil=>trivial | cons _ _=>exact h1.elim
   | cons m ms ih=>cases fs with
    | nil=>exact h1.elim
    | cons f fs=>exact ⟨let ⟨a,o,xs,n,e,ho,z⟩:=h1.1; ⟨a,o,xs,n,e,k a o ho,z⟩,ih fs h1.2⟩
  refine kat_kind (T:=.type "int") t (by exact lin [_,_] [(1,.n 2,.v 1),(1,.v 1,.v 0)] 1 (.a (.n 0) (.n 1)) (.v 0) rfl h2 (l_s h3)) (fun v hv=>?_) rfl ⟨rfl,rfl⟩
  obtain ⟨i,tk,rfl⟩:=h4 v hv
  exact fun A Q E s _ q=>wpAny_pure q
 ·obtain ⟨a,b,rfl⟩:=h v hv
  obtain ⟨c,d,rfl⟩:=h v' hv'
  obtain ⟨ad,o,t,u,n,rfl,ho,_,hd⟩:=xi q
  obtain ⟨ad',o',t',u',n',rfl,ho',_,hd'⟩:=xi q'
  rw [fK,← decide_not] at hQ
  refine kat_lt (k _ _ ho) hd (k _ _ ho') hd' (kat_cons (wpAny_eqBool_int (kat_go (fun e=>kat_yes (kat_cons (wpAny_eqBool_int (kat_go (fun e'=>kat_yes (kat_nil ?_)) fun e'=>kat_no (kat_one _ _ (wpAny_lt_int ?_)))))) fun e=>kat_no (oneLt_int ?_))))
  ·rwa [decide_eq_false (fun z=>z (.inr ⟨(beq_iff_eq.mp e).symm,Int.le_of_eq (beq_iff_eq.mp e').symm⟩))] at hQ
  ·show Q (decide (b < d)) s'
   rwa [decide_eq_decide.mpr (yM (beq_iff_eq.mp e) Int.not_le)] at hQ
  ·rwa [decide_eq_decide.mpr (yL (beq_eq_false_iff_ne.mp e))] at hQ
end
end
noncomputable section
open PySem PyProof.Rows PySem.W
section
variable {C:Cx} {A:Around} {E:Value→Shared→Prop} {s:Shared} {ρ:List Addr} {N:Addr→Prop}
end
end
noncomputable section
open PySem PyProof.Rows PySem.W
section
variable {C:Cx} {s:Shared} {ρ:List Addr} {N:Addr→Prop}
theorem lJ {A:Around} {E:Value→Shared→Prop} {a:Addr} {xs ys:List V} {ms:List Value} (hl:s.heap.PlainList a ms.toArray) (r:aI s.heap ρ N xs ms) (hu:A.units+2 < cLine) (hk:gp xs) (hlen:xs.length≤1000000) (hp:ys.Perm xs) (hs:ys.Pairwise fun a b=>leV a b=true):
  wpAny C.M A (call (.builtin "sorted") [.ref a]) (cF s ρ N ys) E s:=by
 cases hk with
 | txts h=>exact fI (iH hl r hlen) hu (fun _ r=>oi r h) hlen hp hs
 | duos h=>exact fI (iH hl r hlen) hu (fun _ r=>pJ r h) hlen hp hs
end
end
noncomputable section
open PySem PyProof.Rows
variable {γ:Gh}
section
variable {C:Cx} {k:Nat} {sc:Scope} {env:Env} {A:Around} {ρ₀:List Addr} {st₀:St} {s₀:Shared} {ρ:List Addr} {st:St} {s:Shared} {X:String→St→Prop}
theorem gc {f:String} {p:Pos} {Q:Value→Shared→Prop} {E:Value→Shared→Prop} (I:Inv C γ ρ st.H s) (F:Fra γ env st ρ s) (hf:f∈bltNames) (hk:bD env.scope f=true) (h:Q (eV f) s):
  wpAny C.M A (eval (.Name (f:Str) p) env) Q E s:=by
 simp only [bD,Bool.and_eq_true,beq_iff_eq,Bool.not_eq_true',kd] at hk
 exact Calls.Name_function_global F.kind hk.1 (Calls.loadGlobal_builtin (mg:=C.mg) (mb:=C.mb) (by rw [F.glob]; exact C.g.keeps I.base) (C.blts f hf).1 (by rw [F.blt]; exact C.b.keeps I.base) (C.blts f hf).2 h) hk.2
theorem eO {c:String} {p:Pos} {cls:Addr} {Q:Value→Shared→Prop} {E:Value→Shared→Prop} (I:Inv C γ ρ st.H s) (F:Fra γ env st ρ s) (hc:C.mg c=some (.ref cls)) (hk:bD env.scope c=true) (h:Q (.ref cls) s):
  wpAny C.M A (eval (.Name (c:Str) p) env) Q E s:=by
 simp only [bD,Bool.and_eq_true,beq_iff_eq,Bool.not_eq_true',kd] at hk
 exact Calls.Name_function_global F.kind hk.1 (Calls.loadGlobal_global (mg:=C.mg) (by rw [F.glob]; exact C.g.keeps I.base) hc h) hk.2
theorem bR {f:Value} {es:Es} {pes:List Expr} {pos:Pos} {W:List V→St→Prop} {K:Args→Shared→Prop} (ih:SEs C k sc es pes) (hs:env.scope=sc) (hr:bK (2*k+1) A γ) (a:At C γ env ρ₀ st₀ s₀ ρ st s) (w:wEs (Calls C k) C.glo es st W X)
  (h: ∀ ms s' vs st' ρ',ms.length=pes.length→W vs st'→aI s'.heap ρ' (Nl γ ρ' st'.H) vs ms→At C γ env ρ₀ st₀ s₀ ρ' st' s'→Stp ρ st.H s ρ' st'.H s'→K ⟨ms,[]⟩ s'):wpAny C.M A (evalArgs f true (backTo pos (starEach pes env)) []) K (bj C γ ρ₀ st₀ s₀ X) s:=by
 cases pes with
 | nil=>
  have key:=ih.at (pos:=pos) (K:=fun ms s'=>ms=[]∧K ⟨ms,[]⟩ s') hs hr a w fun ms s' vs st' ρ' hl a1 a2 a3 a4=>⟨List.eq_nil_of_length_eq_zero hl,h ms s' vs st' ρ' hl a1 a2 a3 a4⟩
  show wpAny _ _ (evalArgs f true [] []) _ _ s
  unfold evalArgs
  show wpAny _ A (spliced [] >>= _) _ _ s
  refine wpAny_bind (wpAny_mono key (fun vs s' q=>?_) fun _ _ x=>x)
  obtain ⟨rfl,q⟩:=q
  refine wpAny_bind (wpAny_pure (wpAny_holding ?_))
  exact wpAny_bind (wpAny_pure (wpAny_bind (wpAny_pure (wpAny_pure q))))
 | cons p r=>
  have key:=ih.at (pos:=pos) hs hr a w h
  rw [cj (ih.1 p List.mem_cons_self)] at key ⊢
  exact Calls.evalArgs_plain key
theorem uO {f:String} {es:Es} {pes:List Expr} {p q:Pos} (hf:f∈C.fns) (hk:bD sc f=true) (hne:pes≠[]) (hes:SEs C k sc es pes):SE C k sc (.call f es) (.Call (.Name (f:Str) p) pes [] q):=fun env A s γ ρ st Q X hs hr I F w=>by
 obtain ⟨fa,o,fd,hfa,h1,h2,h3⟩:=C.hfns f hf
 refine Call_ (eO I F h1 (hs▸hk) (Calls.callWith_function (o:=o) (fd:=fd) (bR hes hs hr (At.start I F) w fun ms s₁ vs st₁ ρ₁ hn w₁ r₁ a₁ S₁=>⟨⟨a₁.inv.base _ _ h2,h3⟩,?_⟩)))
 rcases w₁ with ⟨v,H',hc,hQ⟩ | ⟨c,H',hc,hX⟩
 ·refine wpAny_call (codeAny_mono (hc A s₁ γ ρ₁ ms fa (hr.mono (Nat.le_succ _)) a₁.inv r₁ hfa) fun res s' p=>?_)
  cases res with
  | error e=>exact p.elim
  | ok fl=>
   cases fl<;>first | exact p.elim | skip
   obtain ⟨ρ',p1,p2,p3⟩:=p
   exact ⟨v,_,ρ',hQ,a₁.same,p1,p2,a₁.stp.trans p3⟩
 ·refine wpAny_call (codeAny_mono (hc A s₁ γ ρ₁ ms fa (hr.mono (Nat.le_succ _)) a₁.inv r₁ hfa) fun res s' p=>?_)
  cases res with
  | ok fl=>cases fl<;>exact p.elim
  | error e=>
   obtain ⟨ρ',p1,p2,p3⟩:=p
   exact ⟨c,_,ρ',hX,a₁.same,p1.back (a₁.stp.back a₁.inv),p2,a₁.stp.trans p3⟩
theorem sZ {t:String} (ht:t∈tyNames):t∈bltNames∧eV t=.type t:=by
 simp only [tyNames,List.mem_cons,List.not_mem_nil,or_false] at ht
 rcases ht with rfl | rfl | rfl | rfl | rfl<;>decide
theorem nj {a:E} {pa pt:Expr} {p q:Pos} {W:V→St→Prop} {Q:V→St→Prop} {d:Value} (hk:bD sc "isinstance" =true) (hh:aW pa=true) (hpt:aW pt=true) (ha:SE C k sc a pa) (hs:env.scope=sc) (hr:bK (2*k+1) A γ) (I:Inv C γ ρ st.H s) (F:Fra γ env st ρ s) (w:wE (Calls C k) C.glo a st W X)
  (hn: ∀ {Q E:Value→Shared→Prop} {ρ st s},Inv C γ ρ st.H s→Fra γ env st ρ s→Q d s→wpAny C.M A (eval pt env) Q E s)
  (h: ∀ mv s' v st' ρ',W v st'→Rel s'.heap ρ' (Nl γ ρ' st'.H) v mv→At C γ env ρ st s ρ' st' s'→∃ b,Q (.bool b) st'∧wpAny C.M A (call (.builtin "isinstance") [mv,d]) (lm s' fun mv=>Rel s'.heap ρ' (Nl γ ρ' st'.H) (.bool b) mv) (bj C γ ρ st s X) s'):
  wpAny C.M A (eval (.Call (.Name ("isinstance" :String) p) [pa,pt] [] q) env) (eh C γ ρ st s Q) (bj C γ ρ st s X) s:=by
 refine Call_ (gc I F (f:= "isinstance") (by decide) (hs▸hk) ?_)
 show wpAny C.M A (callWith q (.builtin "isinstance") [] _ []) _ _ s
 refine callWith_builtin1 (args_cons (ha.at hs hr (At.start I F) w fun mv s₁ v st₁ ρ₁ w₁ r₁ a₁ S₁=>args_cons (hn a₁.inv a₁.fra (args_nil ?_)) (cj hpt)) (cj hh)) (cj hh) (by rw [cj hpt]; rfl)
 obtain ⟨b,hQ,x⟩:=h mv s₁ v st₁ ρ₁ w₁ r₁ a₁
 exact wpAny_mono x (fun _ _ p=>a₁.sameP hQ p) fun _ _ x=>x
theorem xG {a:E} {t:String} {pa:Expr} {p p' q:Pos} (hk:bD sc "isinstance" =true) (ht:t∈tyNames) (hk':bD sc t=true) (hh:aW pa=true) (ha:SE C k sc a pa):SE C k sc (.isi a t) (.Call (.Name ("isinstance" :String) p) [pa,.Name (t:Str) p'] [] q):=fun env A s γ ρ st Q X hs hr I F w=>
 nj hk hh rfl ha hs hr I F w (fun I F h=>gc I F (sZ ht).1 (hs▸hk') ((sZ ht).2▸h)) fun mv s' v st' ρ' w' r' a'=>by
  obtain ⟨X,e,hQ⟩:=w'
  exact ⟨_,hQ,su a'.inv ht e r'⟩
theorem tA {v:V} {m:Value} {c:String} (I:Inv C γ ρ st.H s) (r:Rel s.heap ρ (Nl γ ρ st.H) v m) (h:mq st.H v c):c∈C.exs∧∃ x ox cls,m=.ref x∧C.mg c=some (.ref cls)∧PySem.W.InstAt s.heap x ox cls none:=by
 cases h with
 | mk hH=>
  obtain ⟨a,rfl,hρ⟩:=r.loc_inv
  obtain ⟨h0,o,cls,vs,h1,h2,h3,h4,h5⟩:=I.obj _ _ _ hρ hH
  refine ⟨h0,a,o,cls,rfl,h2,⟨h1,h3,?_,?_⟩⟩
  ·unfold PySem.W.notCls; rw [h5]
  ·rw [h4]; trivial
theorem mL {Ex:Value→Shared→Prop} {x:Addr} {ox:Obj} {c:String} {cls:Addr} {d:Value} {b:Bool} (I:Inv C γ ρ st.H s) (hc:c∈C.exs) (hm:C.mg c=some (.ref cls)) (hi:PySem.W.InstAt s.heap x ox cls none)
  (hb: ∀ K:PySem.W.Frag,PySem.W.kitOne K (.ref cls) (.type "ValueError")=some true→(∀ c'∈C.exs,∃ cls',C.mg c'=some (.ref cls')∧PySem.W.kitOne K (.ref cls) (.ref cls')=some (bp c' c)∧(bp c' c=true→dB K cls cls'=true))→PySem.W.kitOne K (.ref cls) d=some b):
  wpAny C.M A (call (.builtin "isinstance") [.ref x,d]) (lm s fun mv=>Rel s.heap ρ (Nl γ ρ st.H) (.bool b) mv) Ex s:=by
 obtain ⟨cls',⟨⟨h0,_⟩,K,hK,h1,h2,h3⟩⟩:=C.hexs c hc
 have h0:C.mg (c:Str)=some (.ref cls'):=h0
 rw [hm] at h0; cases h0
 exact wc (fun a o e=>I.base a o (hK a o e)) hi h1 (hb K h2 h3) fun tk=>⟨.bool _,tk,rfl⟩
theorem uK {a:E} {c:String} {pa:Expr} {p p' q:Pos} (hk:bD sc "isinstance" =true) (ht:c∈C.exs) (hk':bD sc c=true) (hh:aW pa=true) (ha:SE C k sc a pa):SE C k sc (.isiC a c) (.Call (.Name ("isinstance" :String) p) [pa,.Name (c:Str) p'] [] q):=fun env A s γ ρ st Q X hs hr I F w=>by
 obtain ⟨cls,⟨⟨hcm,_⟩,_⟩⟩:=C.hexs c ht
 refine nj hk hh rfl ha hs hr I F w (fun I F h=>eO I F hcm (hs▸hk') h) fun mv s' v st' ρ' w' r' a'=>?_
 obtain ⟨c',e,hQ⟩:=w'
 obtain ⟨h0,x,ox,cls',rfl,h1,h2⟩:=tA a'.inv r' e
 refine ⟨_,hQ,mL a'.inv h0 h1 h2 fun K _ q=>?_⟩
 obtain ⟨z,z1,z2,_⟩:=q c ht
 rw [show C.mg (c:Str)=some (.ref cls) from hcm] at z1; cases z1
 exact z2
theorem uI {a:E} {pa:Expr} {p p' q:Pos} (hk:bD sc "isinstance" =true) (hk':bD sc "ValueError" =true) (hh:aW pa=true) (ha:SE C k sc a pa):SE C k sc (.isiV a) (.Call (.Name ("isinstance" :String) p) [pa,.Name ("ValueError" :String) p'] [] q):=fun env A s γ ρ st Q X hs hr I F w=>
 nj hk hh rfl ha hs hr I F w (fun I F h=>gc I F (f:= "ValueError") (by decide) (hs▸hk') h) fun mv s' v st' ρ' w' r' a'=>by
  obtain ⟨c',e,hQ⟩:=w'
  obtain ⟨h0,x,ox,cls',rfl,h1,h2⟩:=tA a'.inv r' e
  exact ⟨true,hQ,mL a'.inv h0 h1 h2 fun K q _=>q⟩
theorem aI.one_inv {h:Heap} {N:Addr→Prop} {v:V} {ms:List Value} (r:aI h ρ N [v] ms): ∃ m,ms=[m]∧Rel h ρ N v m:=by
 obtain ⟨m,r',rfl,h1,h2⟩:=r.cons_inv
 rw [h2.nil_inv]; exact ⟨m,rfl,h1⟩
theorem qW {h:Heap} {N:Addr→Prop} {prog:Program} {w:World} {kvs:List (List Nat×V)} {ms:List (Str×Value)} (r:fj h ρ N sOf kvs ms):(∀ p∈kvs,p.1.length≤au∧∀ c∈p.1,c < 128)→∀ vs:List Value,vs.length=ms.length→
  (∀ (j:Nat) v,vs[j]?= some v→∃ k x,ms[j]?= some (k,x)∧(strKind prog w).is k v=true)→aI h ρ N (kvs.map fun p=>V.str p.1) vs:=by
 induction r with
 | nil=>intro _ vs hl _; rw [List.eq_nil_of_length_eq_zero hl]; exact .nil
 | @cons k v kvs mv ms a _ ih=>
  intro hk vs hl hv
  cases vs with
  | nil=>cases hl
  | cons u vs=>
   obtain ⟨k',x,e1,e2⟩:=hv 0 u rfl
   cases e1
   obtain ⟨t,rfl⟩:=Value.isStrOf_shape e2
   obtain ⟨z1,z2⟩:=hk _ List.mem_cons_self
   exact .cons (.str t z1 z2) (ih (fun p hp=>hk p (List.mem_cons_of_mem _ hp)) vs (Nat.succ.inj hl) fun j w hw=>hv (j+1) w hw)
theorem sw {f:BN} {vs:List V} {ms:List Value} {Q:V→St→Prop} (hr:bK (2*k+1) A γ) (a:At C γ env ρ₀ st₀ s₀ ρ st s) (r:aI s.heap ρ (Nl γ ρ st.H) vs ms) (w:Cs f vs st Q):
  wpAny C.M A (call (eV f.name) ms) (eh C γ ρ₀ st₀ s₀ Q) (bj C γ ρ₀ st₀ s₀ X) s:=by
 have hu2:A.units+2 < cLine:=Nat.lt_of_le_of_lt (Nat.add_le_add_left (by lia:2≤4*(2*k+1)) _) (Nat.lt_trans hr.units (by decide))
 rcases w with ⟨v,e,w⟩ | ⟨xs,e,w⟩
 ·cases e with
  | len e=>
   obtain ⟨m,rfl,r1⟩:=r.one_inv
   exact wpAny_mono (sq a.inv e r1) (fun _ _ p=>a.sameP w p) fun _ _ x=>x
  | str h=>
   obtain ⟨m,rfl,r1⟩:=r.one_inv
   obtain ⟨t,rfl⟩:=r1.int_inv
   exact wpAny_mono (lI (ρ:=ρ) (H:=st.H) h) (fun _ _ p=>a.sameP w p) fun _ _ x=>x
  | int b=>
   obtain ⟨m,rfl,r1⟩:=r.one_inv
   obtain rfl:=r1.bool_inv
   exact wpAny_mono (kB (ρ:=ρ) (H:=st.H)) (fun _ _ p=>a.sameP w p) fun _ _ x=>x
  | @intT cs hd hne hl=>
   obtain ⟨m,rfl,r1⟩:=r.one_inv
   obtain ⟨t,rfl,_⟩:=r1.str_inv
   exact PySem.W.KIN.call_text (PySem.intText_digits (x:=sOf cs) hd hne (by rw [br]; exact lin [_] [(1,.v 0,.n 300)] 1 (.v 0) (.n 4300) rfl hl)) (by rw [br]; exact lin [_] [(1,.v 0,.n 300)] 1 (.v 0) (.n 640) rfl hl) (a.sameP w ⟨Rel.int _ _,_,rfl⟩)
  | @intN cs hd hne hl=>
   obtain ⟨m,rfl,r1⟩:=r.one_inv
   obtain ⟨t,rfl,_⟩:=r1.str_inv
   exact PySem.W.KIN.call_text (PySem.intText_neg (x:=sOf (45::cs)) (cs:=cs) (by simp) hd hne (by rw [br,List.length_cons]; exact lin [_] [(1,.v 0,.n 300)] 1 (.a (.v 0) (.n 1)) (.n 4300) rfl hl)) (by rw [br,List.length_cons]; exact lin [_] [(1,.v 0,.n 300)] 1 (.a (.v 0) (.n 1)) (.n 640) rfl hl) (a.sameP w ⟨Rel.int _ _,_,rfl⟩)
  | range1 b=>
   obtain ⟨m,rfl,r1⟩:=r.one_inv
   obtain ⟨t,rfl⟩:=r1.int_inv
   exact wpAny_mono (lK a.inv) (fun _ _ p=>a.grewP w p) fun _ _ x=>x
 ·cases e with
  | list e=>
   obtain ⟨m,rfl,r1⟩:=r.one_inv
   obtain ⟨b,ms,rfl,hl,hrr,hlen⟩:=a.inv.view r1 e
   exact wpAny_mono (lL hl hrr hlen) (fun _ _ p=>a.newP w p) fun _ _ x=>x
  | @listS i kvs hz h=>
   obtain ⟨m,rfl,r1⟩:=r.one_inv
   obtain ⟨d,rfl,hd⟩:=r1.loc_inv
   obtain ⟨ms,hD,hrr,⟨hl,hm⟩,hk⟩:=a.inv.obj _ d _ hd h
   obtain ⟨ep,hat⟩:=hD.dictAt
   refine PySem.W.kdl_call (PySem.W.kdl_dict (knd:=strKind C.prog C.w) (kvs:=ms) (ep:=ep) (beq_eq_false_iff_ne.mpr hm)) (hr.handled a.inv hz) hat (by rw [← hrr.length]; exact hl) fun h' tk acc c k ho it=>?_
   refine a.newP w ⟨s.heap.objs.size,acc.toList,rfl,aE _,⟨k,rfl,rfl⟩,⟨c,by simpa using ho⟩,qW hrr hk acc.toList (by rw [Array.length_toList]; exact it.1) fun j v e=>it.2 j v (by rw [← Array.getElem?_toList]; exact e),by rw [List.length_map]; exact hl⟩
  | sorted e hk hlen hp hs=>
   obtain ⟨m,rfl,r1⟩:=r.one_inv
   obtain ⟨b,ms,rfl,hl,hrr,_⟩:=a.inv.view r1 e
   exact wpAny_mono (lJ hl hrr hu2 hk hlen hp hs) (fun _ _ p=>a.newP w p) fun _ _ x=>x
theorem zk (f:BN):f.name∈bltNames:=by cases f<;>decide
theorem xL {f:BN} {es:Es} {pes:List Expr} {p q:Pos} (hk:bD sc f.name=true) (hne:pes≠[]) (hes:SEs C k sc es pes):SE C k sc (.blt f es) (.Call (.Name (f.name:Str) p) pes [] q):=fun env A s γ ρ st Q X hs hr I F w=>by
 refine Call_ (gc I F (zk f) (hs▸hk) ?_)
 have key: ∀ f',wpAny C.M A (evalArgs f' true (backTo q (starEach pes env)) []) (fun a s₁=>wpAny C.M A (call (eV f.name) ([]++a.pos) a.kw) (eh C γ ρ st s Q) (bj C γ ρ st s X) s₁) (bj C γ ρ st s X) s:=
  fun f'=>bR hes hs hr (At.start I F) w fun ms s₁ vs st₁ ρ₁ hn w₁ r₁ a₁ S₁=>sw hr a₁ r₁ w₁
 have two:(∃ g,eV f.name=.builtin g)∨∃ g,eV f.name=.type g:=by
  unfold eV
  by_cases h:["len", "isinstance", "sorted", "max", "min"].contains f.name=true
  ·rw [if_pos h]; exact .inl ⟨_,rfl⟩
  ·rw [if_neg h]; exact .inr ⟨_,rfl⟩
 rcases two with ⟨g,e⟩ | ⟨g,e⟩
 ·rw [e] at key ⊢
  exact Calls.callWith_builtin (dj hes.1) (key _)
 ·rw [e] at key ⊢
  exact PySem.callWith_type (dj hes.1) (key _)
end
end
noncomputable section
open PySem PyProof.Rows
variable {γ:Gh}
theorem Inv.upd {C:Cx} {ρ:List Addr} {H:List HO} {s s':Shared} {i:Nat} {a:Addr} {o o':HO} (I:Inv C γ ρ H s) (ha:ρ[i]?= some a) (hH:H[i]?= some o) (hl:o.isLive=true) (hl':o'.isLive=true)
  (sb: ∀ b,b≠a→s'.heap.get? b=s.heap.get? b) (ht: ∃ x,s'.heap.get? a=some x) (hg:s'.gens=s.gens) (hos:s'.os=s.os)
  (r:cG s.heap ρ (Nl γ ρ H) s'.heap ρ (Nl γ ρ (H.set i o'))→rO C s'.heap ρ (Nl γ ρ (H.set i o')) o' a):Inv C γ ρ (H.set i o') s'∧Stp ρ H s ρ (H.set i o') s':=by
 have live:Lv ρ H a:=⟨i,o,ha,hH,hl⟩
 have na: ¬ γ.h a:=I.live_nh live
 have lv: ∀ b,Lv ρ (H.set i o') b→Lv ρ H b:=fun b ⟨j,x,h1,h2,h3⟩=>by
  rcases be h2 with ⟨rfl,_,_⟩ | ⟨_,h2⟩
  ·rw [ha] at h1; cases h1; exact live
  ·exact ⟨j,x,h1,h2,h3⟩
 have kp:cG s.heap ρ (Lv ρ H) s'.heap ρ (Lv ρ (H.set i o')):=
  ⟨fun b x e n=>⟨x,(sb b (fun q=>n (q▸live))).trans e,.refl x⟩,fun b q=>.inl (lv b q),fun _ _ e=>e⟩
 refine ⟨⟨fun b x e=>(sb b fun q=>?_).trans (I.base b x e),by rw [List.length_set]; exact I.len,I.nodup,I.fresh,fun b hb=>?_,fun j b x e1 e2=>?_,I.apart,?_,fun b q=>?_,I.off,(fun b q=>let ⟨x,es,n,e,d⟩:=I.frm b q; ⟨x,es,n,(sb b fun z=>na (z▸γ.fh b q)).trans e,d⟩),I.hdl' kp,(fun z=>I.hq (ee hH (vP hl) z)),hg.trans I.gens,hos.trans I.os⟩,⟨kp⟩⟩
 ·rw [q,I.fresh a (List.mem_of_getElem? ha)] at e; cases e
 ·by_cases q:b=a
  ·rw [q]; exact ht
  ·obtain ⟨x,hx⟩:=I.there b hb; exact ⟨x,(sb b q).trans hx⟩
 ·rcases be e2 with ⟨rfl,rfl,_⟩ | ⟨ne,e2⟩
  ·rw [ha] at e1; cases e1; exact r kp.gh
  ·exact (I.obj j b x e1 e2).kept kp.gh fun y hy=>(sb b fun q=>ne (eN I.nodup ha (q▸e1))).trans hy
 ·intro j b x e1 q e2
  rcases be e2 with ⟨rfl,_,_⟩ | ⟨_,e2⟩
  ·rw [ha] at e1; cases e1; exact absurd (γ.bh _ q) na
  ·exact I.bor j b x e1 q e2
 ·obtain ⟨x,hx⟩:=I.held b q
  exact ⟨x,(sb b fun e=>na (e▸q)).trans hx⟩
section
variable {C:Cx} {k:Nat} {sc:Scope} {env:Env} {A:Around} {ρ₀:List Addr} {st₀:St} {s₀:Shared} {ρ:List Addr} {st:St} {s:Shared} {X:String→St→Prop}
theorem lM {i:Nat} {xs:List V} {v:V} {m mv:Value} {Q:V→St→Prop} (at_:At C γ env ρ₀ st₀ s₀ ρ st s) (ro:Rel s.heap ρ (Nl γ ρ st.H) (.loc i) m) (hH:st.H[i]?= some (.list xs)) (r:Rel s.heap ρ (Nl γ ρ st.H) v mv) (hl:xs.length < 16000000)
  (w:Q .none ⟨st.s,st.H.set i (.list (xs++[v]))⟩):wpAny C.M A (call (.builtin "list.append") [m,mv]) (eh C γ ρ₀ st₀ s₀ Q) (bj C γ ρ₀ st₀ s₀ X) s:=by
 obtain ⟨a,rfl,ha⟩:=ro.loc_inv
 obtain ⟨ms,hp,hr,hlen⟩:=at_.inv.obj i _ _ ha hH
 refine wpAny_list_append_plain hp (fun h' hp' sb=>?_) (by rw [bc,List.size_toArray,← hr.length]; exact hlen)
 obtain ⟨I',S'⟩:=at_.inv.upd (s':={ s with heap:=h' }) (o':=.list (xs++[v])) ha hH rfl rfl sb.2 (cb hp') rfl rfl fun kp=>
  ⟨ms++[mv],by simpa using hp',(hr.kept kp).append (.cons (r.kept kp) .nil),by rw [List.length_append]; unfold au; exact Nat.le_trans (Nat.succ_le_of_lt hl) (by decide)⟩
 exact ⟨_,_,ρ,w,at_.same,.none,I',at_.stp.trans S'⟩
theorem mm {pe:Expr} {name:Str} {env:Env} {whole:Sem Value} (h:aW pe=true):attributeBase pe name env whole=whole:=by
 cases pe<;>first | rfl | skip
 rename_i f es kw p
 cases es with
 | nil=>cases f<;>first | rfl | cases h
 | cons _ _=>cases f<;>rfl
noncomputable def MN.id (m:MN):String:=MN.rec "list.append" "str.startswith" "list.pop" "list.index" "str.split" "str.join" "dict.get" "list.extend" m
theorem oa {h:Heap} {N:Addr→Prop} (ss:List (List Nat)): ∀ {ms:List Value},aI h ρ N (ss.map .str) ms→StrsAre ms (ss.map sOf)∧(∀ s∈ss,s.length≤au∧∀ c∈s,c < 128):=by
 induction ss with
 | nil=>intro ms r; rw [r.nil_inv]; exact ⟨.nil,fun _ h=>absurd h List.not_mem_nil⟩
 | cons x ss ih=>
  intro ms r
  obtain ⟨m,r',rfl,q1,q2⟩:=aI.cons_inv (v:=.str x) r
  obtain ⟨t,rfl,h1,h2⟩:=q1.str_inv
  obtain ⟨i1,i2⟩:=ih q2
  refine ⟨.cons _ t i1,fun s hs=>?_⟩
  rcases List.mem_cons.mp hs with rfl | hs
  ·exact ⟨h1,h2⟩
  ·exact i2 s hs
theorem iJ (a b:List Nat):sOf a++sOf b=sOf (a++b):=du a b
theorem iR (sep:List Nat) (ss:List (List Nat)):Str.join (sOf sep) (ss.map sOf)=sOf (aN sep ss):=by
 induction ss with
 | nil=>rfl
 | cons p ss ih=>
  cases ss with
  | nil=>rw [aN]; show sOf p=_; rw [List.flatMap_nil,List.append_nil]
  | cons q ss=>
   rw [cX,← iJ,← iJ,← ih]
   show sOf p++sOf sep++Str.join (sOf sep) ((q::ss).map sOf)=_
   rw [Str.append_assoc]
theorem lF {x:List Nat} {c:Nat} {ps:List (List Nat)} (hne:ps≠[]) (hj:aN [c] ps=x) (hf: ∀ p∈ps,c ∉ p):Txt.split (sOf x) ⟨#[c]⟩=ps.map sOf:=by
 have back: ∀ l:List Str,l=(l.map fun y=>y.cps.toList).map sOf:=fun l=>by
  rw [List.map_map]
  exact (List.map_id l).symm.trans (List.map_congr_left fun y _=>rfl)
 have h1:=StrLaws.join_split (sOf x) ⟨#[c]⟩
 have h2:=StrLaws.split_free (sOf x) c
 have hl0:Txt.split (sOf x) ⟨#[c]⟩≠[]:=fun e=>by
  rw [e] at h1
  have e1:x=[]:=jC _ _ h1.symm
  subst e1
  rw [Txt.split,if_pos (by simp [Str.length])] at e
  cases e
 generalize Txt.split (sOf x) ⟨#[c]⟩=l at h1 h2 hl0
 rw [back l]
 refine congrArg _ (qA _ _ (fun e=>hl0 (List.map_eq_nil_iff.mp e)) hne (fun p hp=>?_) hf ?_)
 ·obtain ⟨y,hy,rfl⟩:=List.mem_map.mp hp
  exact h2 y hy
 ·rw [back l,show (⟨#[c]⟩:Str)=sOf [c] from rfl,iR] at h1
  rw [hj]; exact jC _ _ h1
theorem qz (sep:List Nat) (ss:List (List Nat)):(ss.map List.length).sum≤(aN sep ss).length:=by
 cases ss with
 | nil=>exact Nat.le_refl _
 | cons p ss=>
  rw [aN,List.length_append,List.map_cons,List.sum_cons]
  refine Nat.add_le_add_left ?_ _
  induction ss with
  | nil=>exact Nat.le_refl _
  | cons q ss ih=>
   rw [List.flatMap_cons,List.length_append,List.length_append,List.map_cons,List.sum_cons]
   exact li [_,_,_,_] [([2],[4])] [1,2] [3,1,4] rfl ih
theorem qy {sep:List Nat} {ss:List (List Nat)} {c:Nat} (h:c∈aN sep ss):c∈sep∨∃ s∈ss,c∈s:=by
 cases ss with
 | nil=>cases h
 | cons p ss=>
  rcases List.mem_append.mp h with h | h
  ·exact .inr ⟨p,List.mem_cons_self,h⟩
  ·obtain ⟨q,h1,h2⟩:=List.mem_flatMap.mp h
   rcases List.mem_append.mp h2 with h | h
   ·exact .inl h
   ·exact .inr ⟨q,List.mem_cons_of_mem _ h1,h⟩
theorem qa {Ex:Value→Shared→Prop} {N:Addr→Prop} {b:Addr} {sep:List Nat} {ss:List (List Nat)} {ns:List Value} {t:Tok} {Q:Value→Shared→Prop} (hl:s.heap.PlainList b ns.toArray) (r:aI s.heap ρ N (ss.map .str) ns)
  (hsz:(aN sep ss).length+(ss.length+1)*(sep.length+1)≤16000000) (hsep: ∀ c∈sep,c < 128) (h: ∀ t' tk,(∀ t',Rel s.heap ρ N (.str (aN sep ss)) (.str (sOf (aN sep ss)) t'))→Q (.str (sOf (aN sep ss)) t') { s with toks:=tk }):
  wpAny C.M A (call (.builtin "str.join") [.str (sOf sep) t,.ref b]) Q Ex s:=by
 obtain ⟨hS,hall⟩:=oa ss r
 have e1:((ss.map sOf).map (·.length)).sum=(ss.map List.length).sum:=by
  rw [List.map_map]; exact congrArg _ (List.map_congr_left fun x _=>br x)
 have e2:=qz sep ss
 have e3:ss.length*sep.length≤(ss.length+1)*(sep.length+1):=Nat.mul_le_mul (Nat.le_succ _) (Nat.le_succ _)
 refine PyProof.Rows.join_list hl.isList (by simpa using hS) (by rw [e1,List.length_map,br]; exact lin [_,_,_,_] [(1,.a (.v 2) (.v 3),.n 16000000),(1,.v 0,.v 2),(1,.v 1,.v 3)] 1 (.a (.v 0) (.v 1)) (.n 16777216) rfl hsz e2 e3) fun t' k=>?_
 have e4:Txt.join (sOf sep) (ss.map sOf)=sOf (aN sep ss):=(StrLaws.glued_eq_join _ _).trans (iR sep ss)
 rw [e4]
 refine h t' k fun t'=>.str t' (by unfold au; exact lin [_,_] [(1,.a (.v 0) (.v 1),.n 16000000)] 1 (.v 0) (.n 16777216) rfl hsz) fun c hc=>?_
 rcases qy hc with h | ⟨x,h1,h2⟩
 ·exact hsep c h
 ·exact (hall x h1).2 c h2
theorem lC (xs:List Str): ∀ (tk:Nat) (j:Nat) (v:Value),(strsFrom tk xs)[j]?= some v→∃ y t,xs[j]?= some y∧v=.str y t:=by
 induction xs with
 | nil=>intro _ _ _ h; cases h
 | cons x xs ih=>
  intro tk j v h
  cases j with
  | zero=>cases h; exact ⟨x,tk,rfl,rfl⟩
  | succ j=>exact ih (tk+1) j v h
theorem on {Ex:Value→Shared→Prop} {N:Addr→Prop} {x:List Nat} {c:Nat} {ps:List (List Nat)} {t u:Tok} (hx:x.length≤16000000) (hs: ∀ c∈x,c < 128) (hne:ps≠[]) (hj:aN [c] ps=x) (hf: ∀ p∈ps,c ∉ p):
  wpAny C.M A (call (.builtin "str.split") [.str (sOf x) t,.str (sOf [c]) u]) (cF s ρ N (ps.map .str)) Ex s:=by
 have e:=lF hne hj hf
 have len:ps.length≤x.length+1:=by
  rw [← hj]
  cases ps with
  | nil=>exact absurd rfl hne
  | cons p ps=>
   rw [aN,List.length_append,List.length_cons]
   have:ps.length≤(ps.flatMap fun q=>[c]++q).length:=by
    clear hne hj hf e
    induction ps with
    | nil=>exact Nat.le_refl _
    | cons q ps ih=>rw [List.flatMap_cons,List.length_append,List.length_append,List.length_cons,List.length_singleton]; exact li [_,_,_] [([1],[3])] [1,0] [0,2,3] rfl ih
   exact li [_,_,_] [([1],[3])] [1,0] [2,3,0] rfl this
 have small: ∀ p∈ps,p.length≤x.length∧∀ d∈p,d∈x:=fun p hp=>by
  rw [← hj]
  cases ps with
  | nil=>cases hp
  | cons p' ps=>
   rcases List.mem_cons.mp hp with rfl | hp
   ·exact ⟨by rw [aN,List.length_append]; exact li [_,_] [] [1] [1,2] rfl,fun d hd=>List.mem_append.mpr (.inl hd)⟩
   ·have key:p.length≤(ps.flatMap fun q=>[c]++q).length∧∀ d∈p,d∈ps.flatMap fun q=>[c]++q:=by
     obtain ⟨l,r,rfl⟩:=List.append_of_mem hp
     rw [List.flatMap_append,List.flatMap_cons]
     exact ⟨by simp only [List.length_append]; exact lin [_,_,_,_] [] 1 (.v 0) (.a (.v 1) (.a (.a (.v 2) (.v 0)) (.v 3))) rfl,fun d hd=>by simp [hd]⟩
    exact ⟨by rw [aN,List.length_append]; exact li [_,_,_] [([1],[3])] [1] [2,3] rfl key.1,fun d hd=>List.mem_append.mpr (.inr (key.2 d hd))⟩
 have rel: ∀ l:List Str,∀ qs:List (List Nat),l=qs.map sOf→(∀ p∈qs,p∈ps)→∀ vs:List Value,vs.length=l.length→(∀ (j:Nat) v,vs[j]?= some v→∃ y t,l[j]?= some y∧v=.str y t)→aI s.heap ρ N (qs.map .str) vs:=by
  intro l qs
  induction qs generalizing l with
  | nil=>intro e1 _ vs hl _; subst e1; rw [List.eq_nil_of_length_eq_zero hl]; exact .nil
  | cons q qs ih=>
   intro e1 hq vs hl hv
   subst e1
   cases vs with
   | nil=>cases hl
   | cons v vs=>
    obtain ⟨y,t',h1,rfl⟩:=hv 0 v rfl
    cases h1
    obtain ⟨z1,z2⟩:=small q (hq q List.mem_cons_self)
    exact .cons (.str t' (by unfold au; exact lin [_,_] [(1,.v 1,.n 16000000),(1,.v 0,.v 1)] 1 (.v 0) (.n 16777216) rfl hx z1) fun d hd=>hs d (z2 d hd)) (ih _ rfl (fun p hp=>hq p (List.mem_cons_of_mem _ hp)) vs (Nat.succ.inj hl) fun j w hw=>hv (j+1) w hw)
 have mlen:(ps.map V.str).length≤au:=by rw [List.length_map]; unfold au; exact lin [_,_] [(1,.v 1,.n 16000000),(1,.v 0,.a (.v 1) (.n 1))] 1 (.v 0) (.n 16777216) rfl hx len
 have itself:Txt.split (sOf x) (sOf [c])=[sOf x]→cF s ρ N (ps.map .str) (.ref s.heap.objs.size) { s with heap:=s.heap.push { cls:=.type "list",data:=.seq #[.str (sOf x) t]}}:=fun q=>
  ⟨_,[.str (sOf x) t],rfl,aE _,bL.push s _ s.toks,⟨0,Heap.get?_push_size _ rfl⟩,rel [sOf x] ps (q.symm.trans e) (fun _ h=>h) _ rfl (fun j v hv=>by
   cases j with
   | zero=>cases hv; exact ⟨_,t,rfl,rfl⟩
   | succ j=>cases hv),mlen⟩
 cases h1:(decide ((sOf x).length < (sOf [c]).length) || decide (Builtin.Str.strKind (sOf x) < Builtin.Str.strKind (sOf [c])))
 ·cases hf:(Builtin.Str.occurrences (sOf x) (sOf [c]) 0 (sOf x).length ((sOf x).length+1)).isEmpty
  ·have q:Txt.split (sOf x) (sOf [c])=Builtin.Str.partsBetween (sOf x) (Builtin.Str.occurrences (sOf x) (sOf [c]) 0 (sOf x).length ((sOf x).length+1)) (sOf [c]).length:=(if_neg (ne_true_of_eq_false h1)).trans (if_neg (ne_true_of_eq_false hf))
   have q':=q.symm.trans e
   refine call_meets F.slot_str_split (typeIs_str _ _ _) F.entry_str_split (F.args_str_split_2 _ _) (meets_str_split_sep (sOf x) (sOf [c]) t u h1 rfl hf (by rw [br]; show x.length≤16777216; exact lin [_] [(1,.v 0,.n 16000000)] 1 (.v 0) (.n 16777216) rfl hx) (by rw [q',List.length_map]; show ps.length≤16777216; exact lin [_,_] [(1,.v 1,.n 16000000),(1,.v 0,.a (.v 1) (.n 1))] 1 (.v 0) (.n 16777216) rfl hx len)) ?_
   refine ⟨_,_,rfl,aE _,bL.push s _ _,⟨0,Heap.get?_push_size _ rfl⟩,rel _ ps q' (fun _ h=>h) _ (strsFrom_length _ _) (fun j v hv=>lC _ _ j v hv),mlen⟩
  ·exact call_meets F.slot_str_split (typeIs_str _ _ _) F.entry_str_split (F.args_str_split_2 _ _) (meets_str_split_not_found (sOf x) (sOf [c]) t u h1 rfl hf) (itself ((if_neg (ne_true_of_eq_false h1)).trans (if_pos hf)))
 ·exact call_meets F.slot_str_split (typeIs_str _ _ _) F.entry_str_split (F.args_str_split_2 _ _) (meets_str_split_cannot_occur (sOf x) (sOf [c]) t u h1) (itself (if_pos h1))
theorem so {i:Nat} {xs:List V} {v:V} {m:Value} {Q:V→St→Prop} (at_:At C γ env ρ₀ st₀ s₀ ρ st s) (ro:Rel s.heap ρ (Nl γ ρ st.H) (.loc i) m) (hH:st.H[i]?= some (.list (xs++[v])))
  (w:Q v ⟨st.s,st.H.set i (.list xs)⟩):wpAny C.M A (call (.builtin "list.pop") [m]) (eh C γ ρ₀ st₀ s₀ Q) (bj C γ ρ₀ st₀ s₀ X) s:=by
 obtain ⟨a,rfl,ha⟩:=ro.loc_inv
 obtain ⟨ms,hp,hr,hlen⟩:=at_.inv.obj i _ _ ha hH
 obtain ⟨ps,y,rfl,h1,h2⟩: ∃ ps y,ms=ps++[y]∧aI s.heap ρ (Nl γ ρ st.H) xs ps∧Rel s.heap ρ (Nl γ ρ st.H) v y:=by
  clear hp hlen w hH
  induction xs generalizing ms with
  | nil=>obtain ⟨y,rfl,q⟩:=hr.one_inv; exact ⟨[],y,rfl,.nil,q⟩
  | cons x xs ih=>
   obtain ⟨z,r',rfl,q1,q2⟩:=aI.cons_inv (vs:=xs++[v]) hr
   obtain ⟨ps,y,rfl,h1,h2⟩:=ih _ q2
   exact ⟨z::ps,y,rfl,.cons q1 h1,h2⟩
 obtain ⟨n,ho⟩:=hp
 have hk:(ps++[y]).toArray.size - 1=ps.length:=by rw [List.size_toArray,List.length_append]; rfl
 have hl:=hr.length
 rw [List.length_append,List.length_append,List.length_singleton,List.length_singleton] at hl
 rw [List.length_append,List.length_singleton] at hlen
 refine call_meets PySem.F.slot_list_pop ⟨_,ho,rfl⟩ PySem.F.entry_list_pop (PySem.F.args_list_pop_1 _) (PySem.MeetsSeq.list_pop_last a _ n y (by rw [hk]; simp) (by rw [List.size_toArray,List.length_append,List.length_singleton]; show _≤16777216; unfold au at hlen; exact lin [_,_] [(1,.a (.v 1) (.n 1),.n 16777216),(1,.a (.v 0) (.n 1),.a (.v 1) (.n 1))] 1 (.a (.v 0) (.n 1)) (.n 16777216) rfl hlen (l_s hl))) ⟨ho,?_⟩
 have q:=PySem.IsL.update ho fun xs=>xs.eraseIdxIfInBounds ((ps++[y]).toArray.size - 1)
 rw [show (ps++[y]).toArray.eraseIdxIfInBounds ((ps++[y]).toArray.size - 1)=ps.toArray by rw [hk,PySem.W.kl_erase,List.append_nil]] at q
 obtain ⟨I',S'⟩:=at_.inv.upd (s':={ s with heap:=s.heap.update a (Obj.mapSeq fun xs=>xs.eraseIdxIfInBounds ((ps++[y]).toArray.size - 1))}) (o':=.list xs) ha hH rfl rfl (fun b hb=>Heap.get?_update_other _ _ (Ne.symm hb)) ⟨_,q⟩ rfl rfl fun kp=>
  ⟨ps,⟨_,q⟩,h1.kept kp,by exact li [_,_] [([1,0],[2])] [1] [2] rfl hlen⟩
 exact ⟨_,_,ρ,w,at_.same,h2.kept S'.kept,I',at_.stp.trans S'⟩
theorem sD {m:MN} {o:V} {mo:Value} {vs:List V} {ms:List Value} {Q:V→St→Prop} (hr:bK (2*k+1) A γ) (a:At C γ env ρ₀ st₀ s₀ ρ st s) (ro:Rel s.heap ρ (Nl γ ρ st.H) o mo) (r:aI s.heap ρ (Nl γ ρ st.H) vs ms) (w:Ce m o vs st Q):
  wpAny C.M A (call (.builtin m.id) (mo::ms)) (eh C γ ρ₀ st₀ s₀ Q) (bj C γ ρ₀ st₀ s₀ X) s:=by
 rcases w with ⟨v,e,w⟩ | w
 ·cases e with
  | join e hsz=>
   obtain ⟨m,rfl,r1⟩:=r.one_inv
   obtain ⟨t,rfl,hs1,hs2⟩:=ro.str_inv
   obtain ⟨b,ns,rfl,hl,hrr,hlen⟩:=a.inv.view r1 e
   exact qa hl hrr hsz hs2 fun t' tk rr=>a.sameP w ⟨rr t',tk,rfl⟩
 rcases w with ⟨i,xs,v,⟨rfl,rfl,rfl⟩,hH,hl,w⟩ | w
 ·obtain ⟨m,rfl,r1⟩:=r.one_inv
  exact lM a ro hH r1 hl w
 rcases w with ⟨i,xs,v,⟨rfl,rfl,rfl⟩,hH,w⟩ | w
 ·rw [r.nil_inv]
  exact so a ro hH w
 rcases w with ⟨xs,e,w⟩ | w
 ·cases e with
  | split hx hne hj hf=>
   obtain ⟨m,rfl,r1⟩:=r.one_inv
   obtain ⟨t,rfl,hs1,hs2⟩:=ro.str_inv
   obtain ⟨u,rfl,_⟩:=r1.str_inv
   exact wpAny_mono (on hx hs2 hne hj hf) (fun _ _ p=>a.newP w p) fun _ _ x=>x
 exact w.elim
theorem xF {m:MN} {a:E} {es:Es} {pa:Expr} {pes:List Expr} {ap p:Pos} (hh:aW pa=true) (hlt:pes.length < 20) (hline:ap.endLine=p.line) (ha:SE C k sc a pa) (hes:SEs C k sc es pes):SE C k sc (.mth m a es) (.Call (.Attribute pa (m.name:Str) ap) pes [] p):=fun env A s γ ρ st Q X hs hr I Fr w=>by
 have star:=dj (env:=env) (pos:=p) hes.1
 have few:((backTo p (starEach pes env)).all (fun x=>!x.1) && (backToKw p (keywordEach [] env)).all (fun x=>x.1.isSome) && decide (pes.length+([]:List Keyword).length+(if ([]:List Keyword).isEmpty then 0 else 1) < 30))=true:=by
  simp only [Bool.and_eq_true,decide_eq_true_eq]
  refine ⟨⟨?_,by rfl⟩,Nat.lt_trans hlt (by decide)⟩
  rw [List.all_eq_true]
  intro x hx
  have:=List.any_eq_false.mp star x hx
  simpa using this
 refine wpAny_Call_method_late (mm hh) few (by simpa using hline) rfl (ha.at hs hr (At.start I Fr) w fun mo s₁ o st₁ ρ₁ w₁ r₁ a₁ S₁=>?_)
 obtain ⟨hT,w₁⟩:=w₁
 have args:wpAny C.M A (callWith p (.builtin m.id) [mo] (backTo p (starEach pes env)) []) (eh C γ ρ st s Q) (bj C γ ρ st s X) s₁:=
  Calls.callWith_builtin star (bR hes hs hr a₁ w₁ fun ms s' vs st' ρ' _ w' r' a' S'=>sD hr a' (r₁.kept S'.kept) r' w')
 cases hT with
 | append e=>
  obtain ⟨b,ns,rfl,hl,_⟩:=a₁.inv.view r₁ e
  exact ⟨"list", "list.append",F.plainAttrs_list,F.slot_list_append,F.type_list_append,hl.isList.typeIs,fun a e=>by cases e; obtain ⟨n,q⟩:=hl; exact ⟨_,q,rfl⟩,args⟩
 | pop e=>
  obtain ⟨b,ns,rfl,hl,_⟩:=a₁.inv.view r₁ e
  exact ⟨"list", "list.pop",F.plainAttrs_list,F.slot_list_pop,F.type_list_pop,hl.isList.typeIs,fun a e=>by cases e; obtain ⟨n,q⟩:=hl; exact ⟨_,q,rfl⟩,args⟩
 | split t=>
  obtain ⟨u,rfl,_⟩:=r₁.str_inv
  exact ⟨"str", "str.split",F.plainAttrs_str,F.slot_str_split,F.type_str_split,typeIs_str _ _ _,(fun _ e=>nomatch e),args⟩
 | join t=>
  obtain ⟨u,rfl,_⟩:=r₁.str_inv
  exact ⟨"str", "str.join",F.plainAttrs_str,F.slot_str_join,F.type_str_join,typeIs_str _ _ _,(fun _ e=>nomatch e),args⟩
end
end
noncomputable section
open PySem PyProof.Rows
theorem jQ:entryFor table "proto.unchain" =some Builtin.«proto.unchain»:=entryFor_of_tree (by kernel_rfl)
section
variable {prog:Program} {w:World} {A:Around} {E:Value→Shared→Prop} {s:Shared}
theorem fP {α:Type} {h e:Addr} {oe oh:Obj} {ves vs:Array Value} {Q:α→Shared→Prop} (hh:A.handled=some (.ref h)) (he:s.heap.get? e=some oe) (hd:oe.data=.fields ves) (h2:2 < ves.size) (hx:s.heap.get? h=some oh) (hdh:oh.data=.fields vs) (hv:vs[2]?= some .none) (hne:h≠e)
  (hE:E (.ref e) { s with heap:=s.heap.update e (Obj.mapFields (·.setIfInBounds 2 (.ref h)))}):wpAny (model prog w) A (raiseNew (.ref e):Sem α) Q E s:=by
 unfold raiseNew
 refine wpAny_bind (wpAny_handled ?_)
 rw [hh]
 have hb:(Value.ref h != Value.ref e)=true:=by simpa using hne
 simp only [hb,if_true]
 refine wpAny_bind (wpAny_holding (wpAny_runValue (codeAny_builtin jQ ?_)))
 show wpAny _ _ (field (.ref h) 2 >>= _) _ _ s
 refine wpAny_bind (wpAny_field hx hdh hv ?_)
 refine wpAny_pure ?_
 show wpAny _ _ _ _ _ s
 refine wpAny_bind ?_
 unfold updateField
 refine wpAny_bind (wpAny_load he ?_)
 rw [hd]
 simp only [h2,if_true]
 exact wpAny_update he (wpAny_throw hE)
noncomputable def HOk (A:Around) (h:Heap):Prop:=∀ v,A.handled=some v→∃ e o vs,v=.ref e∧h.get? e=some o∧o.data=.fields vs∧vs[2]?= some .none
theorem fm {α:Type} {Q:α→Shared→Prop} (hk:HOk A s.heap) (hE: ∀ h' e,(∀ b o,s.heap.get? b=some o→h'.get? b=some o)→(∃ o,h'.get? e=some o∧o.cls=.type "StopIteration")→E (.ref e) { s with heap:=h' }):
  wpAny (model prog w) A (newExc (.type "StopIteration") [] >>= fun v=>(raiseNew v:Sem α)) Q E s:=by
 refine wpAny_bind ?_
 simp only [newExc,newTuple]
 refine wpAny_bind (wpAny_newObj_type ?_ (by size_fits))
 refine wpAny_bind (m:=firstArgMember _ _) (wpAny_of_eq (a:=Value.none) (by first | rfl | (simp only [firstArgMember]; rfl)) ?_)
 refine wpAny_newObj_type ?_ (by size_fits)
 generalize hO:(s.heap.push _).push _=h2
 generalize hE2:(s.heap.push _).objs.size=e2
 have kp: ∀ b o,s.heap.get? b=some o→h2.get? b=some o:=fun b o x=>by rw [← hO]; exact Heap.get?_push_of_some _ (Heap.get?_push_of_some _ x)
 cases hh:A.handled with
 | none=>exact wpAny_raiseNew_none hh (hE h2 e2 kp ⟨_,by rw [← hO,← hE2]; exact Heap.get?_push_size _ rfl,rfl⟩)
 | some v=>
  obtain ⟨h,oh,vs,rfl,q1,q2,q3⟩:=hk v hh
  have hne:h≠e2:=fun z=>by
   have:=Heap.lt_size q1
   rw [z,← hE2,size_push'] at this
   exact absurd this (Nat.not_lt.mpr (Nat.le_succ _))
  obtain ⟨oo,he,hcl,ves,hd,hsz⟩: ∃ oo,h2.get? e2=some oo∧oo.cls=.type "StopIteration" ∧∃ ves,oo.data=.fields ves∧2 < ves.size:=
   ⟨_,by rw [← hO,← hE2]; exact Heap.get?_push_size _ rfl,rfl,_,rfl,by rw [Array.size_append]; show 2 < 6+_; exact lin [_] [] 1 (.a (.n 2) (.n 1)) (.a (.n 6) (.v 0)) rfl⟩
  refine fP (s:={ s with heap:=h2 }) hh he hd hsz (kp _ _ q1) q2 q3 hne (hE _ e2 (fun b o x=>?_) ⟨_,Heap.get?_update_self _ he (Obj.isFreed_of_fields (Obj.data_mapFields hd _)),(Obj.cls_mapFields _ _).trans hcl⟩)
  rw [Heap.get?_update_other _ _ (fun z=>by
   have:=Heap.lt_size x
   rw [← z,← hE2,size_push'] at this
   exact absurd this (Nat.not_lt.mpr (Nat.le_succ _)))]
  exact kp b o x
theorem pW {it:Addr} {x left step:Int} {Q:Option Value→Shared→Prop} (hk:HOk A s.heap) (hit:IsRangeIter s.heap it x left step) (hleft:left≤0)
  (hQ: ∀ h',(∀ b o,b≠it→s.heap.get? b=some o→h'.get? b=some o)→Q none { s with heap:=h' }):wpAny (model prog w) A (pyNext (.ref it)) Q E s:=by
 have hT:s.TypeIs (.ref it) "range_iterator" :=⟨_,hit,rfl⟩
 unfold pyNext
 refine wpAny_bind (wpAny_attempt (wpAny_callSpecial?_slot (name:=Str.ofString "__next__") hT F.slot_range_iterator_next
  (wpAny_call_entry F.slot_range_iterator_next hT F.entry_range_iterator_next ?_ (F.args_range_iterator_next_1 _))))
 show wpAny _ _ (field (.ref it) 0 >>= _) _ _ s
 refine wpAny_bind (wpAny_field hit rfl (x:=rawInt x) rfl ?_)
 show wpAny _ _ (field (.ref it) 1 >>= _) _ _ s
 refine wpAny_bind (wpAny_field hit rfl (x:=rawInt left) rfl ?_)
 show wpAny _ _ (field (.ref it) 2 >>= _) _ _ s
 refine wpAny_bind (wpAny_field hit rfl (x:=rawInt step) rfl ?_)
 show wpAny _ _ (if left≤0 then _ else _) _ _ s
 rw [if_pos hleft]
 refine wpAny_bind (wpAny_rule ?_)
 refine wpAny_bind ?_
 show wpAny _ _ (newExc (.type "StopIteration") [] >>= _) _ _ _
 refine fm hk fun h' e kp he=>?_
 refine wpAny_bind (wpAny_isInstance (T:= "StopIteration") (b:=true) he isSubtype_stop ?_)
 exact wpAny_pure (hQ _ fun b o _ x=>kp b o x)
theorem HOk.at {h h':Heap} (hk:HOk A h) (k: ∀ v e,A.handled=some v→v=.ref e→∀ o,h.get? e=some o→h'.get? e=some o):HOk A h':=fun v hv=>by
 obtain ⟨e,o,vs,q1,q2,q3⟩:=hk v hv
 exact ⟨e,o,vs,q1,k v e hv q1 o q2,q3⟩
noncomputable def ek (A:Around):List Addr:=match A.handled with
 | some (.ref e)=>[e]
 | _=>[]
theorem bX {v:Value} {e:Addr} (h:A.handled=some v) (q:v=.ref e):e∈ek A:=by
 unfold ek; rw [h,q]; exact List.mem_cons_self
end
section
variable {prog:Program} {w:World} {A:Around}
theorem walks_range (I:Addr) (hI:I ∉ ek A) (a c:Int) (n:Nat):
  Walks prog w A I (I::ek A) [I] n (fun i v=>∃ t,v=.int (a+i*c) t) (fun i h=>IsRangeIter h I (a+(i:Nat)*c) ((n:Int) - (i:Nat)) c∧HOk A h) where
 sub:=fun b hb=>by simp at hb; simp [hb]
 frame:=fun _ _ _ st hk=>⟨hk I List.mem_cons_self _ st.1,st.2.at fun v e h1 h2 o ho=>hk e (List.mem_cons_of_mem _ (bX h1 h2)) o ho⟩
 item:=fun i s Q E hi st hQ=>by
  refine wpAny_pyNext_range_item st.1 (by lia) fun h' hit' hs'=>?_
  refine hQ _ h' _ ⟨_,rfl⟩ ⟨?_,st.2.at fun v e h1 h2 o ho=>hs'.extBut e o (fun z=>hI (z▸bX h1 h2)) ho⟩ fun b o hb e=>hs'.extBut b o (fun h=>hb (by simp [h])) e
  have e1:a+((i+1:Nat):Int)*c=a+(i:Int)*c+c:=by push_cast; rw [Int.add_mul,Int.one_mul,Int.add_assoc]
  have e2:(n:Int) - ((i+1:Nat):Int)=(n:Int) - (i:Int) - 1:=by push_cast; lia
  rw [e1,e2]; exact hit'
 done:=fun s Q E st hQ=>pW st.2 st.1 (by lia) fun h' he'=>hQ h' s.toks fun b o hb e=>he' b o (fun h=>hb (by simp [h])) e
 self:=fun _ _ _ _ st hQ=>wpAny_pyIter_rangeiter st.1 hQ
theorem sE {E:Value→Shared→Prop} {s:Shared} {it l:Addr} {i:Nat} {items:Array Value} {Q:Option Value→Shared→Prop} (hk:HOk A s.heap) (hI:it ∉ ek A)
  (hit:s.heap.IsListIter it l i) (hl:s.heap.IsList l items) (hx:items[i]?= none)
  (hQ: ∀ h',(∀ b o,b≠it→s.heap.get? b=some o→h'.get? b=some o)→Q none { s with heap:=h' }):wpAny (model prog w) A (pyNext (.ref it)) Q E s:=by
 obtain ⟨o,ho,hc,hd⟩:=id hit
 obtain ⟨ol,hol,_,nl,hdl⟩:=hl
 unfold pyNext
 refine wpAny_bind (wpAny_attempt (wpAny_callSpecial?_slot (name:=Str.ofString "__next__") hit.typeIs slot_listiter_next
  (wpAny_call_entry slot_listiter_next hit.typeIs entry_listiter_next ?_ (args_listiter_next _))))
 show wpAny _ _ (field (.ref it) 0 >>= _) _ _ s
 refine wpAny_bind (wpAny_field ho hd (x:=.ref l) rfl ?_)
 show wpAny _ _ (if (Value.ref l == Value.none)=true then _ else _) _ _ s
 rw [if_neg (show ¬ ((Value.ref l == Value.none)=true) from Bool.false_ne_true)]
 show wpAny _ _ (field (.ref it) 1 >>= _) _ _ s
 refine wpAny_bind (wpAny_field ho hd (x:=.int i 0) rfl ?_)
 show wpAny _ _ (seqItems? (.ref l) >>= _) _ _ s
 refine wpAny_bind (wpAny_seqItems hol hdl ?_)
 simp only [Int.toNat_natCast,hx]
 refine wpAny_bind (wpAny_rule (wpAny_bind (wpAny_setField ho hd (by simp) ?_)))
 have other: ∀ b,b≠it→∀ f:Obj→Obj,(s.heap.update it f).get? b=s.heap.get? b:=fun b hb f=>Heap.get?_update_other _ _ (Ne.symm hb)
 show wpAny _ _ (newExc (.type "StopIteration") [] >>= _) _ _ _
 refine fm (hk.at fun v e h1 h2 o ho=>(other e (fun z=>hI (z▸bX h1 h2)) _).trans ho) fun h' e kp he=>?_
 refine wpAny_bind (wpAny_isInstance (T:= "StopIteration") (b:=true) he isSubtype_stop ?_)
 exact wpAny_pure (hQ _ fun b o hb x=>kp b o ((other b hb _).trans x))
theorem walks_list (I ax:Addr) (hI:I ∉ ek A) (hne:ax≠I) (items:Array Value):
  Walks prog w A I (I::ax::ek A) [I] items.size (fun i v=>items[i]?= some v) (fun i h=>(h.IsListIter I ax i∧h.IsList ax items)∧HOk A h) where
 sub:=fun b hb=>by simp at hb; simp [hb]
 frame:=fun _ _ _ st hk=>⟨⟨st.1.1.at fun o e=>hk I List.mem_cons_self o e,st.1.2.at fun o e=>hk ax (List.mem_cons_of_mem _ List.mem_cons_self) o e⟩,st.2.at fun v e h1 h2 o ho=>hk e (List.mem_cons_of_mem _ (List.mem_cons_of_mem _ (bX h1 h2))) o ho⟩
 item:=fun i s Q E hi st hQ=>by
  refine wpAny_pyNext_list_item st.1.1 st.1.2 (x:=items[i]) (by simp [hi]) fun h' hit' hs'=>?_
  exact hQ _ h' s.toks (by simp [hi]) ⟨⟨hit',st.1.2.extBut hs'.extBut hne⟩,st.2.at fun v e h1 h2 o ho=>hs'.extBut e o (fun z=>hI (z▸bX h1 h2)) ho⟩ fun b o hb e=>hs'.extBut b o (fun h=>hb (by simp [h])) e
 done:=fun s Q E st hQ=>sE st.2 hI st.1.1 st.1.2 (by simp) fun h' he'=>hQ h' s.toks fun b o hb e=>he' b o (fun h=>hb (by simp [h])) e
 self:=fun _ _ _ _ st hQ=>wpAny_pyIter_listiter st.1.1 hQ
theorem um {E:Value→Shared→Prop} {s:Shared} {it:Addr} {x:Str} {t:Tok} {i:Nat} {Q:Option Value→Shared→Prop} (hk:HOk A s.heap) (hI:it ∉ ek A)
  (hit:s.heap.IsStrIter it "str_ascii_iterator" x t i) (hx:x.cps[i]?= none)
  (hQ: ∀ h',(∀ b o,b≠it→s.heap.get? b=some o→h'.get? b=some o)→Q none { s with heap:=h' }):wpAny (model prog w) A (pyNext (.ref it)) Q E s:=by
 obtain ⟨o,ho,hc,hd⟩:=id hit
 unfold pyNext
 refine wpAny_bind (wpAny_attempt (wpAny_callSpecial?_slot (name:=Str.ofString "__next__") hit.typeIs F.slot_str_ascii_iterator_next
  (wpAny_call_entry F.slot_str_ascii_iterator_next hit.typeIs F.entry_str_ascii_iterator_next ?_ (F.args_str_ascii_iterator_next_1 _))))
 show wpAny _ _ (field (.ref it) 0 >>= _) _ _ s
 refine wpAny_bind (wpAny_field ho hd (x:=.str x t) rfl ?_)
 show wpAny _ _ (field (.ref it) 1 >>= _) _ _ s
 refine wpAny_bind (wpAny_field ho hd (x:=.int i 0) rfl ?_)
 simp only [Int.toNat_natCast,hx]
 refine wpAny_bind (wpAny_rule (wpAny_bind (wpAny_setField ho hd (by simp) (wpAny_bind (wpAny_letGo ?_)))))
 have other: ∀ b,b≠it→∀ f:Obj→Obj,(s.heap.update it f).get? b=s.heap.get? b:=fun b hb f=>Heap.get?_update_other _ _ (Ne.symm hb)
 show wpAny _ _ (newExc (.type "StopIteration") [] >>= _) _ _ _
 refine fm (hk.at fun v e h1 h2 o ho=>(other e (fun z=>hI (z▸bX h1 h2)) _).trans ho) fun h' e kp he=>?_
 refine wpAny_bind (wpAny_isInstance (T:= "StopIteration") (b:=true) he isSubtype_stop ?_)
 exact wpAny_pure (hQ _ fun b o hb x=>kp b o ((other b hb _).trans x))
theorem walks_str (I:Addr) (hI:I ∉ ek A) (x:Str) (t:Tok):
  Walks prog w A I (I::ek A) [I] x.cps.size (SignAt x) (fun i h=>h.IsStrIter I "str_ascii_iterator" x t i∧HOk A h) where
 sub:=fun b hb=>by simp at hb; simp [hb]
 frame:=fun _ _ _ st hk=>⟨let ⟨o,ho,r⟩:=st.1; ⟨o,hk I List.mem_cons_self o ho,r⟩,st.2.at fun v e h1 h2 o ho=>hk e (List.mem_cons_of_mem _ (bX h1 h2)) o ho⟩
 item:=fun i s Q E hi st hQ=>by
  refine wpAny_pyNext_ascii_item st.1 (c:=x.cps[i]) (by simp [hi]) fun h' hit' hs'=>?_
  exact hQ _ h' (s.toks+1) ⟨_,_,by simp [hi],rfl⟩ ⟨hit',st.2.at fun v e h1 h2 o ho=>hs'.extBut e o (fun z=>hI (z▸bX h1 h2)) ho⟩ fun b o hb e=>hs'.extBut b o (fun h=>hb (by simp [h])) e
 done:=fun s Q E st hQ=>um st.2 hI st.1 (by simp) fun h' he'=>hQ h' s.toks fun b o hb e=>he' b o (fun h=>hb (by simp [h])) e
 self:=fun _ _ _ _ st hQ=>wpAny_pyIter_striter_ascii st.1 hQ
end
noncomputable def dT (γ:Gh) (a:Addr):Gh:=⟨fun b=>γ.h b∨b=a,γ.f,fun b q=>.inl (γ.fh b q),γ.e,γ.b,fun b q=>.inl (γ.bh b q)⟩
section
variable {C:Cx} {γ γ':Gh} {ρ ρ':List Addr} {H H':List HO} {s s':Shared} {st st':St} {env:Env} {a:Addr}
theorem Fra.kept (F:Fra γ env st ρ s) (K:cG s.heap ρ (Nl γ ρ st.H) s'.heap ρ' (Nl γ' ρ' st'.H)) (e:st'.s=st.s) (hs: ∀ b,γ.h b→γ'.h b)
  (kL: ∀ b o,γ.h b→s.heap.get? b=some o→∃ o',s'.heap.get? b=some o'∧dU o o') (lv: ∀ b,γ.h b→¬ Lv ρ' st'.H b) (hb: ∀ b,γ'.b b→γ.b b):Fra γ' env st' ρ' s':=by
 obtain ⟨m,hm,hv⟩:=F.ns
 refine ⟨F.kind,F.glob,F.blt,lv _ F.own,hs _ F.own,⟨m,aG hm fun o ho=>kL _ o F.own ho,fun x v k kz q=>?_⟩,fun x k=>?_,F.apart,fun q=>F.nb (hb _ q),fun n c h=>⟨hs _ (F.nbc n c h).1,fun q=>(F.nbc n c h).2 (hb _ q)⟩⟩
 ·obtain ⟨mv,e1,e2⟩:=hv x v k kz (e▸q)
  exact ⟨mv,e1,e2.kept K⟩
 ·obtain ⟨c,ov,h1,h2,⟨oc,hoc,hdc⟩,h4⟩:=F.cell x k
  obtain ⟨o',ho',al⟩:=kL c oc h2.2 hoc
  refine ⟨c,ov,h1,⟨lv _ h2.2,hs _ h2.2⟩,⟨oc,by rw [ho',al.same fun es n q=>by rw [hdc] at q; cases q],hdc⟩,fun y hy v q=>?_⟩
  obtain ⟨mv,e1,e2⟩:=h4 y hy v (e▸q)
  exact ⟨mv,e1,e2.kept K⟩
theorem Inv.ghost_nl (I:Inv C γ ρ H s) (h:γ.h a): ¬ Lv ρ H a:=fun q=>I.live_nh q h
theorem Inv.ghost_new (I:Inv C γ ρ H s) (ha:s.heap.get? a=none): ¬ γ.h a:=fun q=>by
 obtain ⟨o,e⟩:=I.held a q; rw [ha] at e; cases e
theorem kG (g:bL s s') (ha:s.heap.get? a=none):cG s.heap ρ (Nl γ ρ H) s'.heap ρ (Nl (dT γ a) ρ H):=
 ⟨fun _ o e _=>⟨o,g.keep _ _ e,.refl o⟩,fun b q=>by
  rcases q with q | q | q
  ·exact .inl (.inl q)
  ·exact .inl (.inr q)
  ·exact .inr (q▸ha),fun _ _ e=>e⟩
theorem Inv.hold (I:Inv C γ ρ H s) (g:bL s s') (ha:s.heap.get? a=none) (ha': ∃ x,s'.heap.get? a=some x):Inv C (dT γ a) ρ H s':=
 ⟨fun b o e=>g.keep _ _ (I.base b o e),I.len,I.nodup,I.fresh,fun b e=>let ⟨o,q⟩:=I.there b e; ⟨o,g.keep _ _ q⟩,
  fun i b o e1 e2=>(I.obj i b o e1 e2).kept (kG g ha) fun x hx=>g.keep _ _ hx,
  (fun b e q=>by
   rcases q with q | q
   ·exact I.apart b e q
   ·subst q; obtain ⟨o,x⟩:=I.there b e; rw [ha] at x; cases x),I.bor,
  fun b q=>by
   rcases q with q | q
   ·obtain ⟨o,e⟩:=I.held b q; exact ⟨o,g.keep _ _ e⟩
   ·rw [q]; exact ha',
  fun b q=>by
   rcases q with q | q
   ·exact I.off b q
   ·rw [q]; exact I.none_above ha,(fun b q=>let ⟨o,es,n,e,d⟩:=I.frm b q; ⟨o,es,n,g.keep _ _ e,d⟩),(fun b q=>let ⟨⟨o,vs,e,d⟩,l,nh⟩:=I.hdl b q; ⟨⟨o,vs,g.keep _ _ e,d⟩,l,fun z=>z.elim nh fun z=>by rw [z,ha] at e; cases e⟩),I.hq,g.gens.trans I.gens,g.os.trans I.os⟩
theorem Fra.hold (F:Fra γ env st ρ s) (I:Inv C γ ρ st.H s) (g:bL s s') (ha:s.heap.get? a=none):Fra (dT γ a) env st ρ s':=
 F.kept (kG g ha) rfl (fun _=>.inl) (fun _ o _ e=>⟨o,g.keep _ _ e,.refl o⟩) (fun _ q=>I.ghost_nl q) fun _ q=>q
theorem cW (hs: ∀ b,γ.h b→γ'.h b):cG s.heap ρ (Nl γ' ρ H) s.heap ρ (Nl γ ρ H):=
 ⟨fun _ o e _=>⟨o,e,.refl o⟩,fun b q=>by
  rcases q with q | q
  ·exact .inl (.inl q)
  ·exact .inl (.inr (hs _ q)),fun _ _ e=>e⟩
theorem Inv.drop (I:Inv C γ' ρ H s) (hs: ∀ b,γ.h b→γ'.h b) (hf: ∀ b,γ.f b→γ'.f b) (he: ∀ b,γ.e b→γ'.e b) (hb: ∀ b,γ.b b ↔ γ'.b b):Inv C γ ρ H s:=
 ⟨I.base,I.len,I.nodup,I.fresh,I.there,fun i b o e1 e2=>(I.obj i b o e1 e2).kept (cW hs) fun x hx=>hx,fun b e q=>(hb b).mpr (I.apart b e (hs _ q)),fun i b o e1 q e2=>I.bor i b o e1 ((hb b).mp q) e2,fun b q=>I.held b (hs _ q),fun b q=>I.off b (hs _ q),fun b q=>I.frm b (hf b q),fun b q=>(let ⟨x,l,nh⟩:=I.hdl b (he b q); ⟨x,l,fun z=>nh (hs _ z)⟩),(fun z b q=>I.hq z b (he b q)),I.gens,I.os⟩
theorem bB (hI:γ.h a) (k: ∀ b o,b≠a→s.heap.get? b=some o→s'.heap.get? b=some o):cG s.heap ρ (Nl γ ρ H) s'.heap ρ (Nl γ ρ H):=
 ⟨fun b o e n=>⟨o,k b o (fun q=>n (.inr (q▸hI))) e,.refl o⟩,fun _ q=>.inl q,fun _ _ e=>e⟩
theorem Inv.touch (I:Inv C γ ρ H s) (hI:γ.h a) (nb: ¬ γ.b a) (hfr:γ.f a→∃ o es n,s'.heap.get? a=some o∧o.data=.dict es n) (k: ∀ b o,b≠a→s.heap.get? b=some o→s'.heap.get? b=some o) (ht: ∃ x,s'.heap.get? a=some x) (hg:s'.gens=s.gens) (ho:s'.os=s.os):Inv C γ ρ H s':=
 ⟨fun b o e=>k b o (fun q=>by rw [q,I.off a hI] at e; cases e) (I.base b o e),I.len,I.nodup,I.fresh,
  fun b e=>let ⟨o,q⟩:=I.there b e; ⟨o,k _ _ (fun x=>nb (x▸I.apart b e (x▸hI))) q⟩,
  fun i b o e1 e2=>(I.obj i b o e1 e2).kept (bB hI k) fun x hx=>k _ _ (fun q=>nb (q▸I.apart b (List.mem_of_getElem? e1) (q▸hI))) hx,I.apart,I.bor,
  fun b q=>by
   by_cases e:b=a
   ·rw [e]; exact ht
   ·obtain ⟨o,x⟩:=I.held b q; exact ⟨o,k b o e x⟩,I.off,fun b q=>by
   obtain ⟨o,es,n,e,d⟩:=I.frm b q
   by_cases x:b=a
   ·exact x▸hfr (x▸q)
   ·exact ⟨o,es,n,k b o x e,d⟩,fun b q=>(let ⟨⟨o,vs,e,d⟩,l,nh⟩:=I.hdl b q; ⟨⟨o,vs,k b o (fun x=>nh (x▸hI)) e,d⟩,l,nh⟩),I.hq,hg.trans I.gens,ho.trans I.os⟩
theorem eR (hI:γ'.h a) (sub: ∀ b,γ.h b→γ'.h b) (k: ∀ b o,b≠a→s.heap.get? b=some o→s'.heap.get? b=some o):cG s.heap ρ (Nl γ' ρ H) s'.heap ρ (Nl γ ρ H):=
 ⟨fun b o e n=>⟨o,k b o (fun q=>n (.inr (q▸hI))) e,.refl o⟩,fun b q=>.inl (q.imp id (sub b)),fun _ _ e=>e⟩
theorem Inv.lose (I:Inv C γ' ρ H s) (hI:γ'.h a) (nb: ¬ γ'.b a) (hb: ∀ b,γ.b b ↔ γ'.b b) (sub: ∀ b,γ.h b→γ'.h b) (hf: ∀ b,γ.f b→γ'.f b) (he: ∀ b,γ.e b→γ'.e b) (hn: ¬ γ.h a) (k: ∀ b o,b≠a→s.heap.get? b=some o→s'.heap.get? b=some o) (hg:s'.gens=s.gens) (ho:s'.os=s.os):Inv C γ ρ H s':=by
 have ne: ∀ b∈ρ,b≠a:=fun b e q=>nb (q▸I.apart b e (q▸hI))
 refine ⟨fun b o e=>k b o (fun q=>by rw [q,I.off a hI] at e; cases e) (I.base b o e),I.len,I.nodup,I.fresh,
  fun b e=>let ⟨o,q⟩:=I.there b e; ⟨o,k _ _ (ne b e) q⟩,fun i b o e1 e2=>(I.obj i b o e1 e2).kept (eR hI sub k) fun x hx=>k _ _ (ne b (List.mem_of_getElem? e1)) hx,
  fun b e q=>(hb b).mpr (I.apart b e (sub b q)),fun i b o e1 q e2=>I.bor i b o e1 ((hb b).mp q) e2,fun b q=>?_,fun b q=>I.off b (sub b q),(fun b q=>let ⟨o,es,n,e,d⟩:=I.frm b (hf b q); ⟨o,es,n,k b o (fun x=>hn (x▸γ.fh b q)) e,d⟩),(fun b q=>let ⟨⟨o,vs,e,d⟩,l,nh⟩:=I.hdl b (he b q); ⟨⟨o,vs,k b o (fun x=>nh (x▸hI)) e,d⟩,l,fun z=>nh (sub b z)⟩),(fun z b q=>I.hq z b (he b q)),hg.trans I.gens,ho.trans I.os⟩
 obtain ⟨o,x⟩:=I.held b (sub b q); exact ⟨o,k b o (fun e=>hn (e▸q)) x⟩
theorem Fra.lose {st₁:St} {ρ₁:List Addr} {s₁:Shared} (F:Fra γ' env st ρ s) (F₁:Fra γ env st₁ ρ₁ s₁) (hI:γ'.h a) (sub: ∀ b,γ.h b→γ'.h b) (hn: ¬ γ.h a) (k: ∀ b o,b≠a→s.heap.get? b=some o→s'.heap.get? b=some o):Fra γ env st ρ s':=by
 obtain ⟨m,hm,hv⟩:=F.ns
 have K:=eR (ρ:=ρ) (H:=st.H) hI sub k
 refine ⟨F.kind,F.glob,F.blt,F.nl,F₁.own,⟨m,aG hm fun o ho=>⟨o,k _ _ (fun q=>hn (q▸F₁.own)) ho,.refl o⟩,fun x v k kz q=>?_⟩,fun x hk=>?_,F.apart,F₁.nb,F₁.nbc⟩
 ·obtain ⟨mv,e1,e2⟩:=hv x v k kz q
  exact ⟨mv,e1,e2.kept K⟩
 ·obtain ⟨c,ov,h1,h2,⟨oc,hoc,hdc⟩,h4⟩:=F.cell x hk
  obtain ⟨c',ov',h1',h2',_⟩:=F₁.cell x hk
  rw [h1] at h1'; cases h1'
  refine ⟨c,ov,h1,⟨h2.1,h2'.2⟩,⟨oc,k _ _ (fun q=>hn (q▸h2'.2)) hoc,hdc⟩,fun y hy v q=>?_⟩
  obtain ⟨mv,e1,e2⟩:=h4 y hy v q
  exact ⟨mv,e1,e2.kept K⟩
theorem Stp.touch {ρ₀:List Addr} {H₀:List HO} {s₀:Shared} (S:Stp ρ₀ H₀ s₀ ρ H s) (hn:s₀.heap.get? a=none) (k: ∀ b o,b≠a→s.heap.get? b=some o→s'.heap.get? b=some o):Stp ρ₀ H₀ s₀ ρ H s':=
 ⟨⟨fun b o e n=>by
   obtain ⟨o',e',q⟩:=S.kep.keep b o e n
   exact ⟨o',k b o' (fun q=>by rw [q,hn] at e; cases e) e',q⟩,S.kep.live,S.kep.pre⟩⟩
theorem Fra.touch {st₁:St} {ρ₁:List Addr} {s₁:Shared} {γ₁:Gh} (F:Fra γ env st ρ s) (F₁:Fra γ₁ env st₁ ρ₁ s₁) (hI:γ.h a) (hn: ¬ γ₁.h a) (k: ∀ b o,b≠a→s.heap.get? b=some o→s'.heap.get? b=some o):Fra γ env st ρ s':=by
 obtain ⟨m,hm,hv⟩:=F.ns
 have K:=bB (ρ:=ρ) (H:=st.H) hI k
 refine ⟨F.kind,F.glob,F.blt,F.nl,F.own,⟨m,aG hm fun o ho=>⟨o,k _ _ (fun q=>hn (q▸F₁.own)) ho,.refl o⟩,fun x v k kz q=>?_⟩,fun x hk=>?_,F.apart,F.nb,F.nbc⟩
 ·obtain ⟨mv,e1,e2⟩:=hv x v k kz q
  exact ⟨mv,e1,e2.kept K⟩
 ·obtain ⟨c,ov,h1,h2,⟨oc,hoc,hdc⟩,h4⟩:=F.cell x hk
  obtain ⟨c',ov',h1',h2',_⟩:=F₁.cell x hk
  rw [h1] at h1'; cases h1'
  refine ⟨c,ov,h1,h2,⟨oc,k _ _ (fun q=>hn (q▸h2'.2)) hoc,hdc⟩,fun y hy v q=>?_⟩
  obtain ⟨mv,e1,e2⟩:=h4 y hy v q
  exact ⟨mv,e1,e2.kept K⟩
end
structure DP (C:Cx) (A:Around) (N:Addr→Prop) (ρ:List Addr) (h:Heap) (items:List V) (I:Addr) (fp:List Addr) (P:Nat→Value→Prop) (St:Nat→Heap→Prop):Prop where
 walks:Walks C.prog C.w A I fp [I] items.length P St
 has: ∀ i h,St i h→∃ o,h.get? I=some o∧∀ es n,o.data≠.dict es n
 rel: ∀ i v mv,items[i]?= some v→P i mv→Rel h ρ N v mv
 fp: ∀ b∈fp,b=I∨(¬ Lv ρ [] b∧∃ o,h.get? b=some o∧∀ es n,o.data≠.dict es n)
 size:items.length≤au
end
noncomputable section
open PySem PyProof.Rows
structure Itr (K:Prop) (C:Cx) (A:Around) (L N:Addr→Prop) (ρ:List Addr) (h:Heap) (items:List V) (I:Addr) (fp:List Addr) (P:Nat→Value→Prop) (St:Nat→Heap→Prop):Prop where
 walks:Walks C.prog C.w A I fp [I] items.length P St
 has: ∀ i h,St i h→∃ o,h.get? I=some o∧∀ es n,o.data≠.dict es n
 rel: ∀ i v mv,items[i]?= some v→P i mv→Rel h ρ N v mv
 fp: ∀ b∈fp,b=I∨(¬ L b∧∃ o,h.get? b=some o∧∀ es n,o.data≠.dict es n)∨(K∧∃ o,h.get? b=some o)
 size:items.length≤au
noncomputable def Off (γ:Gh) (ρ:List Addr) (H:List HO) (b:Addr):Prop:=Lv ρ H b∨(γ.h b∧¬ γ.b b)
noncomputable def fe (K:Prop) (C:Cx) (A:Around) (L N:Addr→Prop) (ρ:List Addr) (s:Shared) (items:List V) (it:Value) (s':Shared):Prop:=
 ∃ I fp P St,it=.ref I∧s.heap.get? I=none∧bL s s'∧St 0 s'.heap∧Itr K C A L N ρ s.heap items I fp P St
theorem mJ {a b c:Int} (hc:0 < c):Builtin.Range.rangeSize a b c=((b - a+c - 1) / c).toNat:=by
 unfold Builtin.Range.rangeSize
 rw [if_pos hc]
 by_cases h:a < b
 ·rw [if_pos h]
  have e:b - a+c - 1=(b - a - 1)+c*1:=by lia
  rw [e,Int.add_mul_ediv_left _ _ (by lia)]
  have:=Int.ediv_nonneg (a:=b - a - 1) (b:=c) (by lia) (by exact (Int.le_of_lt hc))
  lia
 ·rw [if_neg h]
  have:(b - a+c - 1) / c < 1:=Int.ediv_lt_of_lt_mul hc (by lia)
  lia
theorem pU (a b c:Int):((dY a b c).map V.int).length=((b - a+c - 1) / c).toNat:=by rw [List.length_map,dY,List.length_map,List.length_range]
theorem pT {a b c:Int} (hc:0 < c∧c≤1000000) (ha: -1000000≤a∧a≤1000000) (hb: -1000000≤b∧b≤1000000):Builtin.Range.small a b c=true∧((b - a+c - 1) / c).toNat≤au:=by
 have hq:(b - a+c - 1) / c≤3000000:=by
  refine Int.ediv_le_of_le_mul hc.1 ?_
  have:3000000*1≤3000000*c:=by lia
  lia
 refine ⟨?_,by unfold au; lia⟩
 unfold Builtin.Range.small Builtin.Range.rangeFitsLong
 rw [mJ hc.1]
 simp only [Bool.and_eq_true,decide_eq_true_eq,Bool.or_eq_true,if_pos hc.1]
 refine ⟨⟨⟨⟨⟨by exact (Int.le_of_lt (Int.lt_of_lt_of_le (show (-2 ^ 63:Int) < -1000000 by decide) ha.1)),by exact (Int.lt_of_le_of_lt ha.2 (show (1000000:Int) < 2 ^ 63 by decide))⟩,by exact (Int.le_of_lt (Int.lt_of_lt_of_le (show (-2 ^ 63:Int) < -1000000 by decide) hb.1)),by exact (Int.lt_of_le_of_lt hb.2 (show (1000000:Int) < 2 ^ 63 by decide))⟩,by exact (Int.le_of_lt (Int.lt_trans (show (-2 ^ 63:Int) < 0 by decide) hc.1)),by exact (Int.lt_of_le_of_lt hc.2 (show (1000000:Int) < 2 ^ 63 by decide))⟩,by lia,by lia⟩,.inr ⟨by lia,by lia⟩⟩
section
variable {C:Cx} {γ:Gh} {ρ:List Addr} {H:List HO} {s:Shared} {A:Around} {E:Value→Shared→Prop}
theorem bK.hok {k:Nat} (r:bK k A γ) (I:Inv C γ ρ H s):HOk A s.heap:=fun v e=>by
 obtain ⟨a,q1,q2⟩:=r.hdl v e
 obtain ⟨⟨o,vs,h1,h2,h3⟩,_⟩:=I.hdl a q2
 exact ⟨a,o,vs,q1,h1,h2,h3⟩
theorem bK.hadr {k:Nat} (r:bK k A γ) {a:Addr} (h:a∈ek A):γ.e a:=by
 unfold ek at h
 cases q:A.handled with
 | none=>rw [q] at h; cases h
 | some v=>
  obtain ⟨b,rfl,q2⟩:=r.hdl v q
  rw [q] at h
  rw [List.mem_singleton.mp h]; exact q2
theorem bK.hnew {k:Nat} (r:bK k A γ) (I:Inv C γ ρ H s) {a:Addr} (ha:s.heap.get? a=none):a ∉ ek A:=fun q=>by
 obtain ⟨⟨o,_,h1,_⟩,_⟩:=I.hdl _ (r.hadr q)
 rw [ha] at h1; cases h1
theorem bK.hfp {k:Nat} (r:bK k A γ) (I:Inv C γ ρ H s) {a:Addr} (q:a∈ek A): ¬ Off γ ρ H a∧∃ o,s.heap.get? a=some o∧∀ es n,o.data≠.dict es n:=by
 obtain ⟨⟨o,vs,h1,h2,_⟩,hl,nh⟩:=I.hdl _ (r.hadr q)
 exact ⟨fun z=>z.elim hl fun z=>nh z.1,o,h1,fun es n q=>by rw [h2] at q; cases q⟩
theorem kI {K:Prop} {k:Nat} {a:Addr} {items:List V} {ms:List Value} (hr:bK k A γ) (J:Inv C γ ρ H s) (ht:s.heap.PlainList a ms.toArray) (hn: ¬ Off γ ρ H a) (hl:items.length≤au) (r:aI s.heap ρ (Nl γ ρ H) items ms):
  wpAny C.M A (pyIter (.ref a)) (fe K C A (Off γ ρ H) (Nl γ ρ H) ρ s items) E s:=by
 have hne:a≠s.heap.objs.size:=fun q=>by obtain ⟨n,ho⟩:=ht; rw [q,aE] at ho; cases ho
 refine wpAny_pyIter_list ht.isList ⟨_,s.heap.objs.size::a::ek A,fun i v=>ms.toArray[i]?= some v,fun i h=>(h.IsListIter s.heap.objs.size a i∧h.IsList a ms.toArray)∧HOk A h,rfl,aE _,bL.push s _ _,⟨⟨⟨_,Heap.get?_push_size _ rfl,rfl,rfl⟩,ht.isList.push _⟩,(hr.hok J).at fun v e _ _ o ho=>Heap.get?_push_of_some _ ho⟩,⟨?_,fun i h q=>?_,fun i v mv e1 e2=>?_,fun b hb=>?_,hl⟩⟩
 ·rw [r.length,show ms.length=ms.toArray.size by simp]; exact walks_list _ a (hr.hnew J (aE _)) hne ms.toArray
 ·obtain ⟨⟨⟨o,ho,_,hd⟩,_⟩,_⟩:=q; exact ⟨o,ho,fun es n q=>by rw [hd] at q; cases q⟩
 ·obtain ⟨m,e3,e4⟩:=r.get e1
  rw [List.getElem?_toArray,e3] at e2; cases e2; exact e4
 ·rcases List.mem_cons.mp hb with q | q
  ·exact .inl q
  ·rcases List.mem_cons.mp q with rfl | q
   ·obtain ⟨n,ho⟩:=ht
    exact .inr (.inl ⟨hn,_,ho,fun es n' q=>by cases q⟩)
   ·exact .inr (.inl (hr.hfp J q))
theorem eK {K:Prop} {k:Nat} {v:V} {mv:Value} {items:List V} (hr:bK k A γ) (J:Inv C γ ρ H s) (r:Rel s.heap ρ (Nl γ ρ H) v mv) (e:dR v items):wpAny C.M A (pyIter mv) (fe K C A (Off γ ρ H) (Nl γ ρ H) ρ s items) E s:=by
 cases e with
 | @rng a b c hc ha hb=>
  obtain ⟨x,t,u,w,rfl,ht,hn⟩:=r.rng_inv
  obtain ⟨h1,h2⟩:=pT hc ha hb
  refine wpAny_pyIter_range ht h1 ⟨_,_,_,_,rfl,aE _,bL.push s _ _,⟨?_,(hr.hok J).at fun v e _ _ o ho=>Heap.get?_push_of_some _ ho⟩,⟨walks_range _ (hr.hnew J (aE _)) a c _,fun i h q=>⟨_,q.1,fun es n q=>by cases q⟩,fun i v mv e1 e2=>?_,fun b hb=>?_,?_⟩⟩
  ·obtain ⟨t,rfl⟩:=e2
   simp only [dY,List.getElem?_map,Option.map_eq_some_iff] at e1
   obtain ⟨x,⟨y,e3,rfl⟩,rfl⟩:=e1
   obtain ⟨h1,rfl⟩:=List.getElem?_eq_some_iff.mp e3
   rw [List.getElem_range,Int.mul_comm]
   exact .int _ _
  ·exact (List.mem_cons.mp hb).imp id fun q=>.inl (hr.hfp J q)
  ·rw [pU]; exact h2
  ·rw [mJ hc.1,pU]
   have:=Heap.get?_push_size s.heap (o:={ cls:=.type "range_iterator",data:=.fields #[rawInt a,rawInt ((b - a+c - 1) / c).toNat,rawInt c]}) rfl
   simpa [IsRangeIter] using this
 | lst vs=>
  obtain ⟨a,ms,rfl,ht,hn,hl,hr'⟩:=r.lst_inv
  exact kI hr J ht (fun q=>hn (q.imp id fun q=>q.1)) hl hr'
 | str cs=>
  obtain ⟨t,rfl,hl,hc⟩:=r.str_inv
  refine wpAny_pyIter_ascii (x:=sOf cs) (t:=t) (by simpa using hc) ?_
  refine ⟨_,s.heap.objs.size::ek A,SignAt (sOf cs),fun i h=>h.IsStrIter s.heap.objs.size "str_ascii_iterator" (sOf cs) t i∧HOk A h,rfl,aE _,bL.push s _ _,⟨⟨_,Heap.get?_push_size _ rfl,rfl,rfl⟩,(hr.hok J).at fun v e _ _ o ho=>Heap.get?_push_of_some _ ho⟩,⟨?_,fun i h q=>?_,fun i v mv e1 e2=>?_,fun b hb=>?_,by rw [List.length_map]; exact hl⟩⟩
  ·rw [List.length_map,show cs.length=(sOf cs).cps.size by simp]; exact walks_str _ (hr.hnew J (aE _)) _ t
  ·obtain ⟨⟨o,ho,_,hd⟩,_⟩:=q; exact ⟨o,ho,fun es n q=>by rw [hd] at q; cases q⟩
  ·obtain ⟨c,u,e3,rfl⟩:=e2
   rw [List.getElem?_map] at e1
   obtain ⟨c',e4,rfl⟩:=Option.map_eq_some_iff.mp e1
   have e3:cs[i]?= some c:=by simpa using e3
   rw [e3] at e4; cases e4
   exact .str (cs:=[c]) u (show 1≤16777216 by decide) fun x hx=>by rw [List.mem_singleton.mp hx]; exact hc c (List.mem_of_getElem? e3)
  ·exact (List.mem_cons.mp hb).imp id fun q=>.inl (hr.hfp J q)
noncomputable def lb (γ:Gh) (a:Addr):Gh:=⟨fun b=>γ.h b∨b=a,γ.f,fun b q=>.inl (γ.fh b q),γ.e,fun b=>γ.b b∨b=a,fun b q=>q.imp (γ.bh b) id⟩
theorem bG {i:Nat} {a:Addr} (J:Inv C γ ρ H s) (ha:ρ[i]?= some a) (b:Addr) (q:Lv ρ (H.set i .dead) b):Lv ρ H b∧b≠a:=by
 obtain ⟨j,o,h1,h2,h3⟩:=q
 rcases be h2 with ⟨_,rfl,_⟩ | ⟨ne,h2⟩
 ·cases h3
 ·exact ⟨⟨j,o,h1,h2,h3⟩,fun e=>ne (eN J.nodup ha (e▸h1))⟩
theorem qo {i:Nat} {a:Addr} {vs:List V} (J:Inv C γ ρ H s) (ha:ρ[i]?= some a) (hH:H[i]?= some (.list vs)) (b:Addr):Nl (lb γ a) ρ (H.set i .dead) b ↔ Nl γ ρ H b:=by
 constructor
 ·rintro (q | q | q)
  ·exact .inl (bG J ha b q).1
  ·exact .inr q
  ·exact .inl (q▸⟨i,_,ha,hH,rfl⟩)
 ·rintro (q | q)
  ·by_cases e:b=a
   ·exact .inr (.inr e)
   ·obtain ⟨j,o,h1,h2,h3⟩:=q
    refine .inl ⟨j,o,h1,?_,h3⟩
    rw [List.getElem?_set,if_neg fun z=>e (Option.some.inj ((z▸h1).symm.trans ha))]; exact h2
  ·exact .inr (.inl q)
end
end
noncomputable section
open PySem PyProof.Rows
section
variable {C:Cx} {γ γ':Gh} {env:Env} {ρ ρ':List Addr} {st st':St} {s s':Shared} {i:Nat} {a:Addr} {vs:List V}
theorem Inv.lend (J:Inv C γ ρ st.H s) (ha:ρ[i]?= some a) (hH:st.H[i]?= some (.list vs)):Inv C (lb γ a) ρ (st.H.set i .dead) s:=by
 have kp:cG s.heap ρ (Nl γ ρ st.H) s.heap ρ (Nl (lb γ a) ρ (st.H.set i .dead)):=⟨fun _ o e _=>⟨o,e,.refl o⟩,fun b q=>.inl ((qo J ha hH b).mp q),fun _ _ e=>e⟩
 refine ⟨J.base,by rw [List.length_set]; exact J.len,J.nodup,J.fresh,J.there,fun j b o h1 h2=>?_,fun b hb q=>q.imp (J.apart b hb) id,fun j b o h1 q h2=>?_,fun b q=>?_,fun b q=>?_,J.frm,fun b q=>?_,(fun z=>J.hq (ee hH (fun c=>HO.noConfusion) z)),J.gens,J.os⟩
 ·rcases be h2 with ⟨_,rfl,_⟩ | ⟨_,h2⟩
  ·trivial
  ·exact (J.obj j b o h1 h2).kept kp fun _ q=>q
 ·rcases be h2 with ⟨_,rfl,_⟩ | ⟨ne,h2⟩
  ·rfl
  ·rcases q with q | q
   ·exact J.bor j b o h1 q h2
   ·exact absurd (eN J.nodup ha (q▸h1)) ne
 ·rcases q with q | q
  ·exact J.held b q
  ·exact q▸J.there a (List.mem_of_getElem? ha)
 ·rcases q with q | q
  ·exact J.off b q
  ·exact q▸J.fresh a (List.mem_of_getElem? ha)
 ·obtain ⟨x,l,nh⟩:=J.hdl b q
  exact ⟨x,fun z=>l (bG J ha b z).1,fun z=>z.elim nh fun z=>l (z▸⟨i,_,ha,hH,rfl⟩)⟩
theorem Fra.lend (F:Fra γ env st ρ s) (J:Inv C γ ρ st.H s) (ha:ρ[i]?= some a) (hH:st.H[i]?= some (.list vs)):Fra (lb γ a) env ⟨st.s,st.H.set i .dead⟩ ρ s:=by
 have na: ¬ γ.h a:=J.live_nh ⟨i,_,ha,hH,rfl⟩
 have kp:cG s.heap ρ (Nl γ ρ st.H) s.heap ρ (Nl (dT γ a) ρ (st.H.set i .dead)):=⟨fun _ o e _=>⟨o,e,.refl o⟩,fun b q=>.inl ((qo J ha hH b).mp q),fun _ _ e=>e⟩
 have X:Fra (dT γ a) env ⟨st.s,st.H.set i .dead⟩ ρ s:=F.kept kp rfl (fun _=>.inl) (fun _ o _ e=>⟨o,e,.refl o⟩) (fun b q z=>J.ghost_nl q (bG J ha b z).1) fun _ q=>q
 exact ⟨X.kind,X.glob,X.blt,X.nl,X.own,X.ns,X.cell,X.apart,fun q=>q.elim F.nb fun q=>na (q▸F.own),fun n c h=>⟨.inl (F.nbc n c h).1,fun q=>q.elim (F.nbc n c h).2 fun q=>na (q▸(F.nbc n c h).1)⟩⟩
theorem jS {H:List HO} (ha:ρ[i]?= some a) (hH:H[i]?= some .dead) (b:Addr):Lv ρ (H.set i (.list vs)) b ↔ Lv ρ H b∨b=a:=by
 constructor
 ·rintro ⟨j,o,h1,h2,h3⟩
  rcases be h2 with ⟨rfl,_,_⟩ | ⟨_,h2⟩
  ·exact .inr (Option.some.inj (h1.symm.trans ha))
  ·exact .inl ⟨j,o,h1,h2,h3⟩
 ·rintro (⟨j,o,h1,h2,h3⟩ | rfl)
  ·refine ⟨j,o,h1,?_,h3⟩
   rw [List.getElem?_set,if_neg fun e=>?_]
   ·exact h2
   ·subst e; rw [hH] at h2; cases h2; cases h3
  ·refine ⟨i,.list vs,ha,?_,rfl⟩
   rw [List.getElem?_set,if_pos rfl,if_pos (List.getElem?_eq_some_iff.mp hH).1]
theorem eW {H:List HO} (ha:ρ[i]?= some a) (hH:H[i]?= some .dead):cG s.heap ρ (Nl (lb γ a) ρ H) s.heap ρ (Nl γ ρ (H.set i (.list vs))):=
 ⟨fun _ o e _=>⟨o,e,.refl o⟩,fun b q=>.inl (by
  rcases q with q | q
  ·exact ((jS ha hH b).mp q).imp id .inr
  ·exact .inr (.inl q)),fun _ _ e=>e⟩
theorem Inv.unlend {H:List HO} (J:Inv C (lb γ a) ρ H s) (na: ¬ γ.h a) (ha:ρ[i]?= some a) (hH:H[i]?= some .dead) (r:rO C s.heap ρ (Nl (lb γ a) ρ H) (.list vs) a):Inv C γ ρ (H.set i (.list vs)) s:=by
 refine ⟨J.base,by rw [List.length_set]; exact J.len,J.nodup,J.fresh,J.there,fun j b o h1 h2=>?_,fun b hb q=>?_,fun j b o h1 q h2=>?_,fun b q=>J.held b (.inl q),fun b q=>J.off b (.inl q),J.frm,fun b q=>?_,(fun z=>J.hq (ee hH (fun c=>HO.noConfusion) z)),J.gens,J.os⟩
 ·rcases be h2 with ⟨rfl,rfl,_⟩ | ⟨_,h2⟩
  ·rw [ha] at h1; cases h1
   exact r.kept (eW ha hH) fun _ q=>q
  ·exact (J.obj j b o h1 h2).kept (eW ha hH) fun _ q=>q
 ·exact (J.apart b hb (.inl q)).elim id fun e=>absurd (e▸q) na
 ·rcases be h2 with ⟨rfl,_,_⟩ | ⟨_,h2⟩
  ·rw [ha] at h1; cases h1; exact absurd (γ.bh _ q) na
  ·exact J.bor j b o h1 (.inl q) h2
 ·obtain ⟨x,l,nh⟩:=J.hdl b q
  exact ⟨x,fun z=>((jS ha hH b).mp z).elim l fun e=>nh (.inr e),fun z=>nh (.inl z)⟩
theorem eh.unlend {Q:V→St→Prop} {mv:Value} (J:Inv C γ ρ st.H s) (ha:ρ[i]?= some a) (hH:st.H[i]?= some (.list vs))
  (p:eh C (lb γ a) ρ ⟨st.s,st.H.set i .dead⟩ s (fun v st'=>st'.H[i]?= some .dead∧Q v ⟨st'.s,st'.H.set i (.list vs)⟩) mv s'):eh C γ ρ st s Q mv s':=by
 obtain ⟨v,st',ρ',⟨h0,h1⟩,h2,h3,h4,h5⟩:=p
 have na: ¬ γ.h a:=J.live_nh ⟨i,_,ha,hH,rfl⟩
 obtain ⟨ms,⟨n,hx⟩,hr,hl⟩:=J.obj i _ _ ha hH
 have ha':ρ'[i]?= some a:=h5.kep.pre i a ha
 have lv₀: ¬ Lv ρ (st.H.set i .dead) a:=fun q=>(bG J ha a q).2 rfl
 have K5:cG s.heap ρ (Nl γ ρ st.H) s'.heap ρ' (Nl (lb γ a) ρ' st'.H):=⟨fun b o e n=>h5.kep.keep b o e (fun q=>n (.inl (bG J ha b q).1)),fun b q=>by
  rcases q with q | q | q
  ·exact (h5.kep.live b q).imp (fun z=>.inl (bG J ha b z).1) id
  ·exact .inl (.inr q)
  ·exact .inl (.inl (q▸⟨i,_,ha,hH,rfl⟩)),h5.kep.pre⟩
 have r:rO C s'.heap ρ' (Nl (lb γ a) ρ' st'.H) (.list vs) a:=⟨ms,⟨n,h5.kep.same hx lv₀ fun es m q=>by cases q⟩,hr.kept K5,hl⟩
 have I':=h4.unlend na ha' h0 r
 have K:=eW (γ:=γ) (vs:=vs) (s:=s') ha' h0
 refine ⟨v,⟨st'.s,st'.H.set i (.list vs)⟩,ρ',h1,h2,h3.kept K,I',⟨⟨fun b o e n=>h5.kep.keep b o e (fun q=>n (bG J ha b q).1),fun b q=>?_,h5.kep.pre⟩⟩⟩
 rcases (jS ha' h0 b).mp q with q | q
 ·exact (h5.kep.live b q).imp (fun z=>(bG J ha b z).1) id
 ·exact .inl (q▸⟨i,_,ha,hH,rfl⟩)
end
end
noncomputable section
open PySem PyProof.Rows
noncomputable def cc (cs sc:Scope):Scope:=
 { cs with names:=cs.names.map fun (n,k)=>if (k == .free && sc.kind == .function && sc.names.lookup n == some .cell) then (n,.cell) else (n,k)}
noncomputable def cD (cs sc:Scope) (x:String):Bool:=
 cs.kind == .function && kd cs x == some .local &&
 cs.names.all fun p=>match p.2 with
  | .local=>cs.names.lookup p.1 == some .local && (p.1 == (x:Str) || p.1 == (".0" :Str))
  | .free=>sc.names.lookup p.1 == some .cell || sc.names.lookup p.1 == some .free
  | .cell=>false
  | _=>true
noncomputable def fR (env:Env):List (Str×NameKind)→List (Str×Addr)→List (Str×Addr)
 | [],acc=>acc
 | (n,k)::r,acc=>fR env r (if k == .free then (n,(env.cells.lookup n).getD 0)::acc else acc)
theorem oC {cs:Scope} {env:Env} (h: ∀ n,(n,NameKind.free)∈cs.names→∃ c,env.cells.lookup n=some c):closureFor cs env=pure (fR env cs.names []):=by
 have key: ∀ (names:List (Str×NameKind)) (acc:List (Str×Addr)),(∀ n,(n,NameKind.free)∈names→∃ c,env.cells.lookup n=some c)→
   (forIn names acc fun (x:Str×NameKind) (r:List (Str×Addr))=>(match x with
    | (name,kind)=>if kind == NameKind.free then do let c ← cellOf env name; pure (ForInStep.yield ((name,c)::r)) else pure (ForInStep.yield r):Sem (ForInStep (List (Str×Addr)))))=pure (fR env names acc):=by
  intro names
  induction names with
  | nil=>intro acc _; rfl
  | cons p r ih=>
   intro acc h
   obtain ⟨n,k⟩:=p
   rw [List.forIn_cons]
   by_cases hk:k=.free
   ·subst hk
    obtain ⟨c,hc⟩:=h n List.mem_cons_self
    simp only [beq_self_eq_true,if_true,fR,hc,Option.getD_some]
    unfold cellOf
    simp only [hc,pure_bind]
    exact ih _ fun n q=>h n (List.mem_cons_of_mem _ q)
   ·have:(k == NameKind.free)=false:=by simpa using hk
    simp only [this,Bool.false_eq_true,if_false,fR,pure_bind]
    exact ih _ fun n q=>h n (List.mem_cons_of_mem _ q)
 unfold closureFor
 have:=key cs.names [] h
 simp only [bind_pure] at this ⊢
 exact this
theorem eB {env:Env}: ∀ (names:List (Str×NameKind)) (acc:List (Str×Addr)) (n:Str) (c:Addr),(fR env names acc).lookup n=some c→
  (acc.lookup n=some c∨((n,NameKind.free)∈names∧c=(env.cells.lookup n).getD 0))
 | [],acc,n,c,h=>.inl h
 | (m,k)::r,acc,n,c,h=>by
  simp only [fR] at h
  rcases eB r _ n c h with q | ⟨q1,q2⟩
  ·split at q
   ·rename_i hk
    simp only [beq_iff_eq] at hk
    subst hk
    rw [List.lookup_cons] at q
    split at q
    ·rename_i e
     have e:=beq_iff_eq.mp e
     subst e
     cases q
     exact .inr ⟨List.mem_cons_self,rfl⟩
    ·exact .inl q
   ·exact .inl q
  ·exact .inr ⟨List.mem_cons_of_mem _ q1,q2⟩
theorem kW {env:Env}: ∀ (names:List (Str×NameKind)) (acc:List (Str×Addr)) (n:Str),((n,NameKind.free)∈names∨∃ c,acc.lookup n=some c)→∃ c,(fR env names acc).lookup n=some c
 | [],acc,n,h=>by
  rcases h with h | h
  ·cases h
  ·exact h
 | (m,k)::r,acc,n,h=>by
  simp only [fR]
  refine kW r _ n ?_
  rcases h with h | ⟨c,h⟩
  ·rcases List.mem_cons.mp h with e | e
   ·cases e
    right
    simp
   ·exact .inl e
  ·right
   split
   ·by_cases e:n == m
    ·simp [List.lookup_cons,e]
    ·simp only [Bool.not_eq_true] at e
     simp [List.lookup_cons,e,h]
   ·exact ⟨c,h⟩
theorem oD {env:Env} {names:List (Str×NameKind)} {n:Str} {c:Addr} (hf:(n,NameKind.free)∈names) (h:env.cells.lookup n=some c):(fR env names []).lookup n=some c:=by
 obtain ⟨c',h'⟩:=kW (env:=env) names [] n (.inl hf)
 rcases eB names [] n c' h' with q | ⟨_,q⟩
 ·cases q
 ·rw [h',q,h]; rfl
theorem cr {n:Str} {k:NameKind}: ∀ {l:List (Str×NameKind)},l.lookup n=some k→(n,k)∈l
 | [],h=>by cases h
 | (m,j)::r,h=>by
  rw [List.lookup_cons] at h
  split at h
  ·rename_i e
   have:=beq_iff_eq.mp e; subst this
   cases h; exact List.mem_cons_self
  ·exact List.mem_cons_of_mem _ (cr h)
theorem cQ {env:Env} {n:Str} {k:NameKind}: ∀ {names:List (Str×NameKind)},
  (names.map fun (n,k)=>if (k == NameKind.free && env.scope.kind == .function && env.kindOf n == some .cell) then (n,NameKind.cell) else (n,k)).lookup n=some k→
  ∃ j,names.lookup n=some j∧(k=j∨(k=.cell∧j=.free))
 | [],h=>by simp at h
 | (m,j)::r,h=>by
  rw [List.map_cons] at h
  by_cases hc:(j == NameKind.free && env.scope.kind == .function && env.kindOf m == some .cell)=true
  ·simp only [hc,if_true,List.lookup_cons] at h ⊢
   split at h
   ·cases h
    simp only [Bool.and_eq_true,beq_iff_eq] at hc
    rename_i e
    exact ⟨j,by simp [e],.inr ⟨rfl,hc.1.1⟩⟩
   ·rename_i e
    obtain ⟨i,q1,q2⟩:=cQ h
    exact ⟨i,by simp [e,q1],q2⟩
  ·simp only [hc] at h
   simp only [Bool.false_eq_true,if_false] at h
   rw [List.lookup_cons] at h ⊢
   split at h
   ·cases h
    rename_i e
    exact ⟨k,by simp [e],.inl rfl⟩
   ·rename_i e
    obtain ⟨i,q1,q2⟩:=cQ h
    exact ⟨i,by simp [e,q1],q2⟩
section
variable {C:Cx} {γ γ':Gh} {ρ ρ':List Addr} {H H':List HO} {s s':Shared} {st st':St} {env:Env} {a:Addr}
structure dg (cs:Scope) (env:Env) (x:String):Prop where
 kind:cs.kind=.function
 isx:cs.names.lookup (x:Str)=some .local
 loc: ∀ p∈cs.names,p.2=.local→cs.names.lookup p.1=some .local
 only: ∀ p∈cs.names,p.2=.local→p.1=(x:Str)∨p.1=(".0" :Str)
 nocell: ∀ p∈cs.names,p.2≠.cell
 free: ∀ n,(n,NameKind.free)∈cs.names→env.kindOf n=some .cell∨env.kindOf n=some .free
theorem cO {cs:Scope} {env:Env} {x:String} (h:cD cs env.scope x=true):dg cs env x:=by
 simp only [cD,Bool.and_eq_true,beq_iff_eq,List.all_eq_true,kd] at h
 obtain ⟨⟨h1,h2⟩,h3⟩:=h
 refine ⟨h1,h2,fun p hp e=>?_,fun p hp e=>?_,fun p hp e=>?_,fun n hp=>?_⟩
 ·have:=h3 p hp; rw [e] at this; simp at this; exact this.1
 ·have:=h3 p hp; rw [e] at this; simp at this; exact this.2
 ·have:=h3 p hp; rw [e] at this; simp at this
 ·have:=h3 _ hp; simpa [Env.kindOf] using this
theorem dg.closure {cs:Scope} {x:String} (h:dg cs env x) (F:Fra γ env st ρ s):closureFor cs env=pure (fR env cs.names []):=
 oC fun n hn=>let ⟨c,_,h1,_⟩:=F.cell n (h.free n hn); ⟨c,h1⟩
theorem sS {cs:Scope} {x:String} {Cl:Addr} {m:Str→Option Value} {v:V} {mv:Value} (h:dg cs env x) (F:Fra γ env st ρ s) (hg:γ.h Cl) (nb: ¬ γ.b Cl) (hl: ¬ Lv ρ st.H Cl)
  (hn:s.heap.Ns Cl m) (hm:m x=some mv) (r:Rel s.heap ρ (Nl γ ρ st.H) v mv):Fra γ (compEnvC cs (fR env cs.names []) Cl env) (st.set x v) ρ s:=by
 have kinds: ∀ n k,(compEnvC cs (fR env cs.names []) Cl env).kindOf n=some k→∃ j,cs.names.lookup n=some j∧(k=j∨(k=.cell∧j=.free)):=fun n k q=>cQ q
 have cells: ∀ n c,(fR env cs.names []).lookup n=some c→env.cells.lookup n=some c:=fun n c q=>by
  rcases eB cs.names [] n c q with e | ⟨e1,e2⟩
  ·cases e
  ·obtain ⟨c',_,h1,_⟩:=F.cell n (h.free n e1)
   rw [h1] at e2 ⊢; rw [e2]; rfl
 refine ⟨h.kind,F.glob,F.blt,hl,hg,⟨m,hn,fun y w k kz q=>?_⟩,fun n k=>?_,fun n n' c q q'=>F.apart n n' c (cells _ _ q) (cells _ _ q'),nb,fun n c q=>F.nbc n c (cells _ _ q)⟩
 ·obtain ⟨j,e1,e2⟩:=kinds _ _ k
  have hj:j=.local:=by
   rcases e2 with e | ⟨e,_⟩
   ·exact e.symm
   ·cases e
  subst hj
  rcases h.only _ (cr e1) rfl with e | e
  ·have:=eu e
   subst this
   simp only [St.set,if_true,Option.some.injEq] at q
   subst q
   exact ⟨mv,hm,r⟩
  ·exact absurd e kz
 ·have hf:cs.names.lookup n=some .free:=by
   rcases k with k | k
   ·obtain ⟨j,e1,e2⟩:=kinds _ _ k
    rcases e2 with e | ⟨_,e⟩
    ·subst e; exact absurd rfl (h.nocell _ (cr e1))
    ·rw [e] at e1; exact e1
   ·obtain ⟨j,e1,e2⟩:=kinds _ _ k
    rcases e2 with e | ⟨e,_⟩
    ·rw [← e] at e1; exact e1
    ·cases e
  obtain ⟨c,ov,h1,h2,h3,h4⟩:=F.cell n (h.free n (cr hf))
  refine ⟨c,ov,oD (cr hf) h1,h2,h3,fun y hy w q=>h4 y hy w ?_⟩
  have:y≠x:=fun e=>by subst e; have h0:=h.isx; rw [hy,hf] at h0; cases h0
  simpa [St.set,this] using q
end
noncomputable def G3 (γ:Gh) (I D K:Addr):Gh:=⟨fun b=>γ.h b∨b=I∨b=D∨b=K,γ.f,fun b q=>.inl (γ.fh b q),γ.e,γ.b,fun b q=>.inl (γ.bh b q)⟩
noncomputable def G2 (γ:Gh) (D K:Addr):Gh:=⟨fun b=>γ.h b∨b=D∨b=K,γ.f,fun b q=>.inl (γ.fh b q),γ.e,γ.b,fun b q=>.inl (γ.bh b q)⟩
structure jg (C:Cx) (γ':Gh) (env:Env) (ρ₁:List Addr) (st₁:St) (s₁:Shared) (D Cl:Addr) (acc:List V) (ρ:List Addr) (st:St) (s:Shared):Prop where
 inv:Inv C γ' ρ st.H s
 fra:Fra γ' env st ρ s
 ns: ∃ m,s.heap.Ns Cl m
 stp:Stp ρ₁ st₁.H s₁ ρ st.H s
 acc: ∃ ms:List Value,s.heap.PlainList D ms.toArray∧aI s.heap ρ (Nl γ' ρ st.H) acc ms
 same:st.s=st₁.s
theorem qu {γ γ':Gh} {ρ₁ ρ:List Addr} {H₁ H:List HO} {s₁ s:Shared} (S:Stp ρ₁ H₁ s₁ ρ H s) (hs: ∀ b,γ'.h b→γ.h b∨s₁.heap.get? b=none):cG s₁.heap ρ₁ (Nl γ ρ₁ H₁) s.heap ρ (Nl γ' ρ H):=
 ⟨fun a o e n=>S.kep.keep a o e fun q=>n (.inl q),fun a q=>by
  rcases q with q | q
  ·exact (S.kep.live a q).imp .inl id
  ·exact (hs a q).imp .inr id,S.kep.pre⟩
noncomputable def tN (K:Prop) (C:Cx) (A:Around) (γ:Gh) (cs:Scope) (env:Env) (x:String) (ifs:List Expr) (elt:Expr) (f:V→St→(List V→St→Prop)→Prop):Prop:=
 ∀ (γ':Gh) (_: ∀ a,γ.f a→γ'.f a) (_: ∀ a,γ.e a→γ'.e a) (Cl:Addr) (s:Shared) (ρ:List Addr) (st:St) (v:V) (Kf:List V→St→Prop) (E:Value→Shared→Prop),Inv C γ' ρ st.H s→Fra γ' (compEnvC cs (fR env cs.names []) Cl env) (st.set x v) ρ s→f v st Kf→
 wpAny C.M A (forIn ifs true fun c r=>if r=true then do let ok ← isTrue c (compEnvC cs (fR env cs.names []) Cl env) (eval c (compEnvC cs (fR env cs.names []) Cl env)); pure (ForInStep.yield ok) else pure (ForInStep.yield r))
  (fun ok s₃=>if ok=true then wpAny C.M A (eval elt (compEnvC cs (fR env cs.names []) Cl env)) (fun y s₄=>∃ r st' ρ',Kf [r] st'∧st'.s=st.s∧Rel s₄.heap ρ' (Nl γ' ρ' st'.H) r y∧Inv C γ' ρ' st'.H s₄∧Stp ρ st.H s ρ' st'.H s₄∧(K→∀ b o,s.heap.get? b=some o→s₄.heap.get? b=some o)) E s₃
   else ∃ st' ρ',Kf [] st'∧st'.s=st.s∧Inv C γ' ρ' st'.H s₃∧Stp ρ st.H s ρ' st'.H s₃∧(K→∀ b o,s.heap.get? b=some o→s₃.heap.get? b=some o)) E s
section
variable {C:Cx} {γ:Gh} {env:Env} {A:Around} {ρ₁:List Addr} {st₁:St} {s₁:Shared} {ρ:List Addr} {st:St} {s:Shared}
theorem qY {K:Prop} {elt iter:Expr} {x:String} {px pos:Pos} {ifs:List Expr} {cs:Scope} {items:List V} {f:V→St→(List V→St→Prop)→Prop} {I D Cl:Addr} {fp:List Addr} {P:Nat→Value→Prop} {St':Nat→Heap→Prop}
  {R:Result→Shared→Prop} {Kf:List V→St→Prop} (hnm:dg cs env x) (T:tN K C A γ cs env x ifs elt f) (F₁:Fra γ env st₁ ρ₁ s₁)
  (it:Itr K C A (Off γ ρ₁ st₁.H) (Nl γ ρ₁ st₁.H) ρ₁ s₁.heap items I fp P St') (dI:s₁.heap.get? I=none) (dD:s₁.heap.get? D=none) (dC:s₁.heap.get? Cl=none) (nDI:D≠I) (nCI:Cl≠I) (nDC:D≠Cl)
  (gI: ¬ γ.h I) (gD: ¬ γ.h D) (gC: ¬ γ.h Cl) (h0:jg C (G3 γ I D Cl) env ρ₁ st₁ s₁ D Cl [] ρ st s) (hst:St' 0 s.heap) (w:eU f items [] st Kf)
  (fin: ∀ acc ρ st s',jg C (G2 γ D Cl) env ρ₁ st₁ s₁ D Cl acc ρ st s'→acc.length≤au→Kf acc st→R (.ok .next) s'):
  codeAny C.M A (.compLoop (.ListComp elt [⟨.Name (x:Str) px,iter,ifs,0⟩] cs pos) 0 (.ref I) (.ref D) (compEnvC cs (fR env cs.names []) Cl env)) R s:=by
 have W:=it.walks
 have gs: ∀ b,(G3 γ I D Cl).h b→γ.h b∨s₁.heap.get? b=none:=fun b q=>by
  rcases q with q | rfl | rfl | rfl
  ·exact .inl q
  ·exact .inr dI
  ·exact .inr dD
  ·exact .inr dC
 have offp: ∀ b,s₁.heap.get? b=none→b≠I→b ∉ fp:=fun b hb hne hm=>by
  rcases it.fp b hm with e | ⟨_,o,e,_⟩ | ⟨_,o,e⟩
  ·exact hne e
  ·rw [hb] at e; cases e
  ·rw [hb] at e; cases e
 have stt: ∀ {i:Nat} {b:Addr} {s s':Shared},s₁.heap.get? b=none→b≠I→(∀ x o,x≠b→s.heap.get? x=some o→s'.heap.get? x=some o)→St' i s.heap→St' i s'.heap:=fun hb hne k q=>
  W.frame _ _ _ q fun y hy o e=>k y o (fun e'=>offp _ hb hne (e'▸hy)) e
 have stk: ∀ {i:Nat} {ρ ρ':List Addr} {st st':St} {s s':Shared},Inv C (G3 γ I D Cl) ρ st.H s→Stp ρ₁ st₁.H s₁ ρ st.H s→Stp ρ st.H s ρ' st'.H s'→(K→∀ b o,s.heap.get? b=some o→s'.heap.get? b=some o)→St' i s.heap→St' i s'.heap:=fun {i ρ ρ' st st' s s'} J S S' kk q=>by
  refine W.frame _ _ _ q fun y hy o e=>?_
  rcases it.fp y hy with rfl | ⟨hn,o₁,h1,h2⟩ | ⟨hK,_⟩
  ·obtain ⟨o',e',hd⟩:=it.has _ _ q
   rw [e] at e'; cases e'
   exact S'.kep.same e (J.ghost_nl (.inr (.inl rfl))) hd
  ·have hl: ¬ Lv ρ₁ st₁.H y:=fun z=>hn (.inl z)
   have e1:=S.kep.same h1 hl h2
   rw [e] at e1; cases e1
   exact S'.kep.same e (S.kep.notLive h1 hl) h2
  ·exact kk hK y o e
 refine codeAny_compLoop_tests (fun n s'=>∃ i acc ρ st,n=items.length+1 - i∧i≤items.length∧acc.length≤i∧jg C (G3 γ I D Cl) env ρ₁ st₁ s₁ D Cl acc ρ st s'∧St' i s'.heap∧eU f (items.drop i) acc st Kf) ?_ (items.length+1)
  ⟨0,[],ρ,st,rfl,Nat.zero_le _,Nat.le_refl _,h0,hst,w⟩
 rintro n s' ⟨i,acc,ρ,st,rfl,hi,hacc,J,hst',w⟩
 by_cases hlt:i < items.length
 ·have hdrop:items.drop i=items[i]::items.drop (i+1):=List.drop_eq_getElem_cons hlt
  rw [hdrop] at w
  have w:f items[i] st (fun a st'=>eU f (items.drop (i+1)) (acc++a) st' Kf):=w
  have hv:items[i]?= some items[i]:=List.getElem?_eq_getElem hlt
  generalize items[i]=v at w hv
  refine W.item i _ _ _ hlt hst' fun mv h₁ tk₁ hPv hst₁ hk₁=>?_
  have k1: ∀ b o,b≠I→s'.heap.get? b=some o→h₁.get? b=some o:=fun b o hb e=>hk₁ b o (by simpa using hb) e
  obtain ⟨m,hm⟩:=J.ns
  obtain ⟨ms,hpl,hrl⟩:=J.acc
  refine wpAny_assign_Name (wpAny_storeName_local (lookup_relabel_local hnm.isx) (hm.at' fun o e=>k1 _ o nCI e) (fun h₂ hn₂ hs₂=>?_) (by simp [compEnvC,relabel,hnm.kind]))
  have I1:Inv C (G3 γ I D Cl) ρ st.H ({ s' with heap:=h₁,toks:=tk₁ }:Shared):=J.inv.touch (a:=I) (.inr (.inl rfl)) (fun q=>gI (γ.bh _ q)) (fun q=>(gI (γ.fh _ q)).elim) k1 (let ⟨o,e,_⟩:=it.has _ _ hst₁; ⟨o,e⟩) rfl rfl
  have F1:Fra (G3 γ I D Cl) env st ρ ({ s' with heap:=h₁,toks:=tk₁ }:Shared):=J.fra.touch F₁ (.inr (.inl rfl)) gI k1
  have S1:Stp ρ₁ st₁.H s₁ ρ st.H ({ s' with heap:=h₁,toks:=tk₁ }:Shared):=J.stp.touch dI k1
  have K1:cG s'.heap ρ (Nl (G3 γ I D Cl) ρ st.H) h₁ ρ (Nl (G3 γ I D Cl) ρ st.H):=bB (s:=s') (s':={ s' with heap:=h₁,toks:=tk₁ }) (a:=I) (.inr (.inl rfl)) k1
  have k2: ∀ b o,b≠Cl→h₁.get? b=some o→h₂.get? b=some o:=fun b o hb e=>hs₂.extBut b o hb e
  generalize hS2:({ ({ s' with heap:=h₁,toks:=tk₁ }:Shared) with heap:=h₂,toks:=tk₁+1 }:Shared)=s2
  have e2:s2.heap=h₂:=by rw [← hS2]
  have I2:Inv C (G3 γ I D Cl) ρ st.H s2:=I1.touch (a:=Cl) (.inr (.inr (.inr rfl))) (fun q=>gC (γ.bh _ q)) (fun q=>(gC (γ.fh _ q)).elim) (by rw [e2]; exact k2) (by rw [e2]; exact bT hn₂) (by rw [← hS2]) (by rw [← hS2])
  have F2:Fra (G3 γ I D Cl) env st ρ s2:=F1.touch F₁ (.inr (.inr (.inr rfl))) gC (by rw [e2]; exact k2)
  have S2:Stp ρ₁ st₁.H s₁ ρ st.H s2:=S1.touch (a:=Cl) dC (by rw [e2]; exact k2)
  have K2:cG h₁ ρ (Nl (G3 γ I D Cl) ρ st.H) s2.heap ρ (Nl (G3 γ I D Cl) ρ st.H):=bB (s:={ s' with heap:=h₁,toks:=tk₁ }) (s':=s2) (a:=Cl) (.inr (.inr (.inr rfl))) (by rw [e2]; exact k2)
  have hst2:St' (i+1) s2.heap:=stt (s:={ s' with heap:=h₁,toks:=tk₁ }) (s':=s2) dC nCI (by rw [e2]; exact k2) hst₁
  have hpl2:s2.heap.PlainList D ms.toArray:=by rw [e2]; exact (hpl.at fun o e=>k2 _ o nDC (k1 _ o nDI e))
  have hrl2:=(hrl.kept K1).kept K2
  have rv:Rel s2.heap ρ (Nl (G3 γ I D Cl) ρ st.H) v mv:=(it.rel i v mv hv hPv).kept (qu S2 gs)
  have FC:Fra (G3 γ I D Cl) (compEnvC cs (fR env cs.names []) Cl env) (st.set x v) ρ s2:=sS hnm F2 (.inr (.inr (.inr rfl))) (fun q=>gC (γ.bh _ q)) (I2.ghost_nl (.inr (.inr (.inr rfl)))) (by rw [e2]; exact hn₂) (by simp) rv
  refine wpAny_mono (T (G3 γ I D Cl) (fun _ q=>q) (fun _ q=>q) Cl s2 ρ st v _ _ I2 FC w) (fun ok s₃ h₃=>?_) fun _ _ e=>e
  have hnC: ∃ m,s2.heap.Ns Cl m:=⟨_,by rw [e2]; exact hn₂⟩
  cases ok with
  | false=>
   simp only [Bool.false_eq_true,if_false] at h₃ ⊢
   obtain ⟨st',ρ',h1,h2,h3,h4,hk⟩:=h₃
   refine ⟨_,?_,i+1,acc,ρ',st',rfl,hlt,by exact li [_,i] [([1],[2])] [1] [2,0] rfl hacc,⟨h3,F2.step h4 h2,?_,S2.trans h4,⟨ms,?_,?_⟩,h2.trans J.same⟩,stk I2 S2 h4 hk hst2,by simpa using h1⟩
   ·exact li [_,_,i,_] [([1,3,0],[4,0]),([4,0],[2,3])] [1,0] [2] rfl (l_d (li [i,_] [([1],[2])] [1,0] [2,0] rfl hi)) (l_g _ _)
   ·obtain ⟨m,hm⟩:=hnC
    exact ⟨m,aG hm fun o e=>h4.kep.keep _ o e (I2.ghost_nl (.inr (.inr (.inr rfl))))⟩
   ·obtain ⟨z,hz⟩:=hpl2
    exact ⟨z,h4.kep.same hz (I2.ghost_nl (.inr (.inr (.inl rfl)))) fun es n q=>by cases q⟩
   ·exact hrl2.kept h4.kept
  | true=>
   simp only [if_true] at h₃ ⊢
   refine wpAny_mono h₃ (fun y s₄ h₄=>?_) fun _ _ e=>e
   obtain ⟨r,st',ρ',h1,h2,h3,h4,h5,hk⟩:=h₄
   have hpl4:s₄.heap.PlainList D ms.toArray:=by
    obtain ⟨z,hz⟩:=hpl2
    exact ⟨z,h5.kep.same hz (I2.ghost_nl (.inr (.inr (.inl rfl)))) fun es n q=>by cases q⟩
   have hms:ms.length≤au:=by rw [← hrl2.length]; have:=it.size; exact li [_,_,i,_] [([3],[4]),([1],[3]),([4],[2])] [1] [2] rfl hi hacc this
   refine wpAny_list_append_plain hpl4 (fun h₅ hl₅ hs₅=>?_) (by rw [bc,List.size_toArray]; exact hms)
   have k5: ∀ b o,b≠D→s₄.heap.get? b=some o→h₅.get? b=some o:=fun b o hb e=>hs₅.extBut b o hb e
   have K5:cG s₄.heap ρ' (Nl (G3 γ I D Cl) ρ' st'.H) h₅ ρ' (Nl (G3 γ I D Cl) ρ' st'.H):=bB (s:=s₄) (s':={ s₄ with heap:=h₅ }) (a:=D) (.inr (.inr (.inl rfl))) k5
   refine ⟨_,?_,i+1,acc++[r],ρ',st',rfl,hlt,by simp; exact hacc,⟨h4.touch (a:=D) (.inr (.inr (.inl rfl))) (fun q=>gD (γ.bh _ q)) (fun q=>(gD (γ.fh _ q)).elim) k5 (cb hl₅) rfl rfl,(F2.step h5 h2).touch F₁ (.inr (.inr (.inl rfl))) gD k5,?_,
    (S2.trans h5).touch dD k5,⟨ms++[y],by simpa using hl₅,((hrl2.kept h5.kept).kept K5).append (.cons (h3.kept K5) .nil)⟩,h2.trans J.same⟩,stt (s:=s₄) (s':={ s₄ with heap:=h₅ }) dD nDI k5 (stk I2 S2 h5 hk hst2),h1⟩
   ·exact li [_,_,i,_] [([1,3,0],[4,0]),([4,0],[2,3])] [1,0] [2] rfl (l_d (li [i,_] [([1],[2])] [1,0] [2,0] rfl hi)) (l_g _ _)
   ·obtain ⟨m,hm⟩:=hnC
    exact ⟨m,aG hm fun o e=>by
     obtain ⟨o',e1,e2⟩:=h5.kep.keep _ o e (I2.ghost_nl (.inr (.inr (.inr rfl))))
     exact ⟨o',k5 _ o' (Ne.symm nDC) e1,e2⟩⟩
 ·have hin:i=items.length:=by exact l_a (hi) ((l_t hlt))
  subst hin
  rw [List.drop_length] at w
  have w:Kf acc st:=w
  refine W.done _ _ _ hst' fun h₁ tk₁ hk₁=>?_
  have k1: ∀ b o,b≠I→s'.heap.get? b=some o→h₁.get? b=some o:=fun b o hb e=>hk₁ b o (by simpa using hb) e
  obtain ⟨m,hm⟩:=J.ns
  obtain ⟨ms,hpl,hrl⟩:=J.acc
  have sub: ∀ b,(G2 γ D Cl).h b→(G3 γ I D Cl).h b:=fun b q=>q.imp id .inr
  have nI: ¬ (G2 γ D Cl).h I:=fun q=>by
   rcases q with q | q | q
   ·exact gI q
   ·exact nDI q.symm
   ·exact nCI q.symm
  have F2:Fra (G2 γ D Cl) env st₁ ρ₁ s₁:=⟨F₁.kind,F₁.glob,F₁.blt,F₁.nl,.inl F₁.own,by
   obtain ⟨m,h1,h2⟩:=F₁.ns
   exact ⟨m,h1,fun x v a b c=>let ⟨mv,e1,e2⟩:=h2 x v a b c; ⟨mv,e1,e2.kept ⟨fun _ o e _=>⟨o,e,.refl o⟩,fun a q=>by
    rcases q with q | q | q | q
    ·exact .inl (.inl q)
    ·exact .inl (.inr q)
    ·exact .inr (q▸dD)
    ·exact .inr (q▸dC),fun _ _ e=>e⟩⟩⟩,fun n hk=>by
   obtain ⟨c,ov,h1,h2,h3,h4⟩:=F₁.cell n hk
   exact ⟨c,ov,h1,⟨h2.1,.inl h2.2⟩,h3,fun y hy v q=>let ⟨mv,e1,e2⟩:=h4 y hy v q; ⟨mv,e1,e2.kept ⟨fun _ o e _=>⟨o,e,.refl o⟩,fun a q=>by
    rcases q with q | q | q | q
    ·exact .inl (.inl q)
    ·exact .inl (.inr q)
    ·exact .inr (q▸dD)
    ·exact .inr (q▸dC),fun _ _ e=>e⟩⟩⟩,F₁.apart,F₁.nb,fun n c h=>⟨.inl (F₁.nbc n c h).1,(F₁.nbc n c h).2⟩⟩
  refine fin acc ρ st _ ⟨J.inv.lose (a:=I) (.inr (.inl rfl)) (fun q=>gI (γ.bh _ q)) (fun _=>Iff.rfl) sub (fun _ q=>q) (fun _ q=>q) nI k1 rfl rfl,J.fra.lose F2 (.inr (.inl rfl)) sub nI k1,⟨m,hm.at' fun o e=>k1 _ o nCI e⟩,J.stp.touch dI k1,⟨ms,hpl.at fun o e=>k1 _ o nDI e,hrl.kept ?_⟩,J.same⟩ (by have:=it.size; exact li [_,_,_] [([1],[3]),([3],[2])] [1] [2] rfl hacc this) w
  exact eR (s:=s') (s':={ s' with heap:=h₁,toks:=tk₁ }) (a:=I) (.inr (.inl rfl)) sub k1
end
section
variable {C:Cx} {k:Nat} {γ γ':Gh} {env:Env} {A:Around} {ρ₀:List Addr} {st₀:St} {s₀:Shared} {ρ₁:List Addr} {st₁:St} {s₁:Shared} {ρ:List Addr} {st:St} {s s':Shared} {H:List HO} {E:Value→Shared→Prop}
theorem fu (g:bL s s') (hs: ∀ b,γ'.h b→γ.h b∨s.heap.get? b=none):cG s.heap ρ (Nl γ ρ H) s'.heap ρ (Nl γ' ρ H):=
 ⟨fun _ o e _=>⟨o,g.keep _ _ e,.refl o⟩,fun b q=>by
  rcases q with q | q
  ·exact .inl (.inl q)
  ·exact (hs b q).imp .inr id,fun _ _ e=>e⟩
theorem Inv.holds (I:Inv C γ ρ H s) (g:bL s s') (hs: ∀ b,γ'.h b→γ.h b∨(s.heap.get? b=none∧∃ o,s'.heap.get? b=some o)) (hf: ∀ b,γ'.f b→γ.f b∨∃ o es n,s'.heap.get? b=some o∧o.data=.dict es n) (he: ∀ b,γ'.e b→γ.e b) (hb: ∀ b,γ'.b b ↔ γ.b b):Inv C γ' ρ H s':=
 ⟨fun b o e=>g.keep _ _ (I.base b o e),I.len,I.nodup,I.fresh,fun b e=>let ⟨o,q⟩:=I.there b e; ⟨o,g.keep _ _ q⟩,
  fun i b o e1 e2=>(I.obj i b o e1 e2).kept (fu g fun b q=>(hs b q).imp id And.left) fun x hx=>g.keep _ _ hx,
  (fun b e q=>by
   rcases hs b q with q | ⟨q,_⟩
   ·exact (hb b).mpr (I.apart b e q)
   ·obtain ⟨o,x⟩:=I.there b e; rw [q] at x; cases x),(fun i b o e1 q e2=>I.bor i b o e1 ((hb b).mp q) e2),
  (fun b q=>by
   rcases hs b q with q | ⟨_,q⟩
   ·obtain ⟨o,e⟩:=I.held b q; exact ⟨o,g.keep _ _ e⟩
   ·exact q),
  (fun b q=>by
   rcases hs b q with q | ⟨q,_⟩
   ·exact I.off b q
   ·exact I.none_above q),(fun b q=>by
   rcases hf b q with q1 | q2
   ·obtain ⟨o,es,n,e,d⟩:=I.frm b q1
    exact ⟨o,es,n,g.keep _ _ e,d⟩
   ·exact q2),(fun b q=>by
   obtain ⟨⟨o,vs,e,d⟩,l,nh⟩:=I.hdl b (he b q)
   refine ⟨⟨o,vs,g.keep _ _ e,d⟩,l,fun z=>?_⟩
   rcases hs b z with z | ⟨z,_⟩
   ·exact nh z
   ·rw [e] at z; cases z),(fun z b q=>I.hq z b (he b q)),g.gens.trans I.gens,g.os.trans I.os⟩
theorem Fra.holds (F:Fra γ env st ρ s) (I:Inv C γ ρ st.H s) (g:bL s s') (sub: ∀ b,γ.h b→γ'.h b) (hs: ∀ b,γ'.h b→γ.h b∨s.heap.get? b=none) (hb: ∀ b,γ'.b b→γ.b b):Fra γ' env st ρ s':=
 F.kept (fu g hs) rfl sub (fun _ o _ e=>⟨o,g.keep _ _ e,.refl o⟩) (fun _ q=>I.ghost_nl q) hb
theorem de {K:Prop} {k:Nat} {elt iter:Expr} {x:String} {px pos:Pos} {ifs:List Expr} {cs:Scope} {items:List V} {f:V→St→(List V→St→Prop)→Prop} {Kf:List V→St→Prop} {mi:Value}
  {RR:Value→Addr→Result→Shared→Prop} (hnm:dg cs env x) (T:tN K C A γ cs env x ifs elt f) (hr:bK (2*k+1) A γ) (J:Inv C γ ρ st.H s) (F:Fra γ env st ρ s) (hit:wpAny C.M A (pyIter mi) (fe K C A (Off γ ρ st.H) (Nl γ ρ st.H) ρ s items) E s)
  (w:eU f items [] st Kf)
  (fin: ∀ D Cl acc ρ' st' s',s.heap.get? D=none→s.heap.get? Cl=none→D≠Cl→¬ γ.h D→¬ γ.h Cl→jg C (G2 γ D Cl) env ρ st s D Cl acc ρ' st' s'→acc.length≤au→Kf acc st'→RR (.ref D) Cl (.ok .next) s'):
  wpAny C.M A (pyIter mi) (fun it s₂=>wpAny C.M A (newList []) (fun acc s₃=>wpAny C.M A (newFunctionEnv cs env.globals (fR env cs.names []) [] env.qual none .none (some env)) (fun cenv s₄=>
   codeAny C.M A (.compStart (.ListComp elt [⟨.Name (x:Str) px,iter,ifs,0⟩] cs pos) 0 it acc { cenv with scope:=relabel cs env }) (RR acc cenv.locals) s₄) E s₃) E s₂) E s:=by
 refine wpAny_mono hit (fun it s₂ h=>?_) fun _ _ x=>x
 obtain ⟨I,fp,P,St',rfl,dI,g,hst,itr⟩:=h
 have eI: ∃ o,s₂.heap.get? I=some o:=let ⟨o,e,_⟩:=itr.has _ _ hst; ⟨o,e⟩
 refine wpAny_newObj_type (wpAny_newFunctionEnv (fun p hp=>hnm.nocell p hp) (by intro y hy; simp at hy) (fun h₁ hns₁ hsb₁=>?_) hnm.kind)
 dsimp only at hns₁ hsb₁ ⊢
 generalize hH2:s₂.heap.push { cls:=.type "list",dict:=none,data:=.seq ([]:List Value).toArray }=H2 at hns₁ hsb₁ ⊢
 have hC:H2.objs.size=s₂.heap.objs.size+1:=by rw [← hH2,Heap.size_push]
 have hDC:s₂.heap.objs.size≠H2.objs.size:=by rw [hC]; exact Nat.ne_of_lt (Nat.lt_succ_self _)
 have dD2:s₂.heap.get? s₂.heap.objs.size=none:=aE _
 have above: ∀ b,s₂.heap.objs.size≤b→s₂.heap.get? b=none:=fun b hb=>by
  cases e:s₂.heap.get? b with
  | none=>rfl
  | some o'=>exact absurd (Heap.lt_size e) (Nat.not_lt.mpr hb)
 have dC2:s₂.heap.get? H2.objs.size=none:=above _ (by rw [hC]; exact Nat.le_succ _)
 have up: ∀ {b:Addr},s₂.heap.get? b=none→s.heap.get? b=none:=fun {b} hb=>by
  cases e:s.heap.get? b with
  | none=>rfl
  | some o=>rw [g.keep _ _ e] at hb; cases hb
 have old: ∀ b o,s₂.heap.get? b=some o→h₁.get? b=some o:=fun b o e=>by
  have hb:=Heap.lt_size e
  exact hsb₁.extBut b o (by rw [hC]; exact Nat.ne_of_lt (Nat.lt_succ_of_lt hb)) (Heap.get?_push_of_some _ (hH2▸Heap.get?_push_of_some _ e))
 have hacc:h₁.PlainList s₂.heap.objs.size #[]:=⟨_,hsb₁.extBut _ _ hDC (Heap.get?_push_of_some _ (hH2▸Heap.get?_push_size _ rfl))⟩
 have nDI:s₂.heap.objs.size≠I:=fun q=>by obtain ⟨o,e⟩:=eI; rw [← q,dD2] at e; cases e
 have nCI:H2.objs.size≠I:=fun q=>by obtain ⟨o,e⟩:=eI; rw [← q,dC2] at e; cases e
 generalize hs3:({ s₂ with heap:=h₁,toks:=s₂.toks+([]:List (Str×Value)).length }:Shared)=s₃
 have e3:s₃.heap=h₁:=by rw [← hs3]
 have g3:bL s s₃:=g.trans ⟨by rw [e3]; exact old,by rw [← hs3],by rw [← hs3]⟩
 have eI3: ∃ o,s₃.heap.get? I=some o:=let ⟨o,e⟩:=eI; ⟨o,by rw [e3]; exact old _ _ e⟩
 have eD3: ∃ o,s₃.heap.get? s₂.heap.objs.size=some o:=by rw [e3]; exact cb hacc
 have eC3: ∃ o,s₃.heap.get? H2.objs.size=some o:=by rw [e3]; exact bT hns₁
 have hs: ∀ b,(G3 γ I s₂.heap.objs.size H2.objs.size).h b→γ.h b∨(s.heap.get? b=none∧∃ o,s₃.heap.get? b=some o):=fun b q=>by
  rcases q with q | rfl | rfl | rfl
  ·exact .inl q
  ·exact .inr ⟨dI,eI3⟩
  ·exact .inr ⟨up dD2,eD3⟩
  ·exact .inr ⟨up dC2,eC3⟩
 have hst3:St' 0 s₃.heap:=itr.walks.frame _ _ _ hst fun b _ o e=>by rw [e3]; exact old b o e
 have loop:codeAny C.M A (.compLoop (.ListComp elt [⟨.Name (x:Str) px,iter,ifs,0⟩] cs pos) 0 (.ref I) (.ref s₂.heap.objs.size) (compEnvC cs (fR env cs.names []) H2.objs.size env))
   (RR (.ref s₂.heap.objs.size) H2.objs.size) s₃:=by
  refine qY hnm T F itr dI (up dD2) (up dC2) nDI nCI hDC (J.ghost_new dI) (J.ghost_new (up dD2)) (J.ghost_new (up dC2))
   ⟨J.holds g3 hs (fun _ q=>.inl q) (fun _ q=>q) (fun _=>Iff.rfl),F.holds J g3 (fun _=>.inl) (fun b q=>(hs b q).imp id And.left) (fun _ q=>q),⟨_,by rw [e3]; exact hns₁⟩,g3.stp,⟨[],by rw [e3]; exact hacc,.nil⟩,rfl⟩ hst3 w ?_
  intro acc ρ' st' s' h1 h2 h3
  exact fin _ _ acc ρ' st' s' (up dD2) (up dC2) hDC (J.ghost_new (up dD2)) (J.ghost_new (up dC2)) h1 h2 h3
 exact codeAny_compStart_list loop (itr.walks.self 0 _ _ _ hst3 loop)
theorem Inv.adopt {a:Addr} {o:HO} (I:Inv C γ' ρ H s) (ha:γ'.h a) (sub: ∀ b,γ.h b→γ'.h b) (hf: ∀ b,γ.f b→γ'.f b) (he: ∀ b,γ.e b→γ'.e b) (hbb: ∀ b,γ.b b ↔ γ'.b b) (hn: ¬ γ.h a) (nb: ¬ γ.b a) (ho:o.isLive=true)
  (r:cG s.heap ρ (Nl γ' ρ H) s.heap (ρ++[a]) (Nl γ (ρ++[a]) (H++[o]))→rO C s.heap (ρ++[a]) (Nl γ (ρ++[a]) (H++[o])) o a):Inv C γ (ρ++[a]) (H++[o]) s:=by
 have k:cG s.heap ρ (Nl γ' ρ H) s.heap (ρ++[a]) (Nl γ (ρ++[a]) (H++[o])):=
  ⟨fun _ x e _=>⟨x,e,.refl x⟩,fun b q=>by
   rcases q with q | q
   ·rcases fD I.len q with q | q
    ·exact .inl (.inl q)
    ·exact .inl (.inr (q▸ha))
   ·exact .inl (.inr (sub b q)),fun i b e=>by rw [List.getElem?_append_left (List.getElem?_eq_some_iff.mp e).1]; exact e⟩
 refine ⟨I.base,by simp [I.len],?_,?_,?_,?_,?_,?_,fun b q=>I.held b (sub b q),fun b q=>I.off b (sub b q),(fun b q=>I.frm b (hf b q)),(fun b q=>let ⟨x,l,nh⟩:=I.hdl b (he b q); ⟨x,fun z=>(fD I.len z).elim l fun z=>nh (z▸ha),fun z=>nh (sub b z)⟩),(fun z b q=>I.hq (gO z) b (he b q)),I.gens,I.os⟩
 ·refine List.nodup_append.mpr ⟨I.nodup,by simp,fun x hx y hy q=>?_⟩
  simp at hy; subst hy; subst q
  exact nb ((hbb _).mpr (I.apart _ hx ha))
 ·intro b hb
  rcases List.mem_append.mp hb with h | h
  ·exact I.fresh b h
  ·simp at h; subst h; exact I.off _ ha
 ·intro b hb
  rcases List.mem_append.mp hb with h | h
  ·exact I.there b h
  ·simp at h; subst h; exact I.held _ ha
 ·intro i b x e1 e2
  rcases Nat.lt_trichotomy i ρ.length with h | h | h
  ·rw [List.getElem?_append_left h] at e1
   rw [List.getElem?_append_left (I.len▸h)] at e2
   exact (I.obj i b x e1 e2).kept k fun y hy=>hy
  ·subst h
   rw [List.getElem?_append_right (Nat.le_refl _)] at e1
   rw [I.len,List.getElem?_append_right (Nat.le_refl _)] at e2
   simp at e1 e2
   subst e1; subst e2
   exact r k
  ·have:(ρ++[a])[i]?= none:=List.getElem?_eq_none (by rw [List.length_append,List.length_singleton]; exact h)
   rw [this] at e1; cases e1
 ·intro b hb q
  rcases List.mem_append.mp hb with h | h
  ·exact (hbb b).mpr (I.apart b h (sub b q))
  ·simp at h; subst h; exact absurd q hn
 ·intro i b x e1 q e2
  rcases Nat.lt_trichotomy i ρ.length with h | h | h
  ·rw [List.getElem?_append_left h] at e1
   rw [List.getElem?_append_left (I.len▸h)] at e2
   exact I.bor i b x e1 ((hbb b).mp q) e2
  ·subst h
   rw [List.getElem?_append_right (Nat.le_refl _),Nat.sub_self] at e1
   cases e1; exact absurd q nb
  ·rw [List.getElem?_eq_none (by rw [List.length_append,List.length_singleton]; exact h)] at e1; cases e1
theorem gn {D Cl:Addr} {acc:List V} {Q:V→St→Prop} {h':Heap} (F₁:Fra γ env st₁ ρ₁ s₁) (dD:s₁.heap.get? D=none) (dC:s₁.heap.get? Cl=none) (nDC:D≠Cl) (gD: ¬ γ.h D) (gC: ¬ γ.h Cl)
  (J:jg C (G2 γ D Cl) env ρ₁ st₁ s₁ D Cl acc ρ st s) (hl:acc.length≤au) (w:jH acc st Q) (hs:Heap.SameBut Cl s.heap h'):
  eh C γ ρ₁ st₁ s₁ Q (.ref D) { s with heap:=h' }:=by
 have k1: ∀ b o,b≠Cl→s.heap.get? b=some o→h'.get? b=some o:=fun b o hb e=>hs.extBut b o hb e
 obtain ⟨ms,hpl,hrl⟩:=J.acc
 have sub: ∀ b,(dT γ D).h b→(G2 γ D Cl).h b:=fun b q=>q.imp id .inl
 have nC: ¬ (dT γ D).h Cl:=fun q=>q.elim gC fun q=>nDC q.symm
 have I1:Inv C (dT γ D) ρ st.H ({ s with heap:=h' }:Shared):=J.inv.lose (a:=Cl) (.inr (.inr rfl)) (fun q=>gC (γ.bh _ q)) (fun _=>Iff.rfl) sub (fun _ q=>q) (fun _ q=>q) nC k1 rfl rfl
 have K1:cG s.heap ρ (Nl (G2 γ D Cl) ρ st.H) h' ρ (Nl (dT γ D) ρ st.H):=eR (s:=s) (s':={ s with heap:=h' }) (a:=Cl) (.inr (.inr rfl)) sub k1
 have S1:Stp ρ₁ st₁.H s₁ ρ st.H ({ s with heap:=h' }:Shared):=J.stp.touch dC k1
 have hpl1:h'.PlainList D ms.toArray:=hpl.at fun o e=>k1 _ o nDC e
 have hrl1:=hrl.kept K1
 have nl: ¬ Nl γ ρ st.H D:=fun q=>q.elim (I1.ghost_nl (.inr rfl)) gD
 rcases w with w | w
 ·have I2:Inv C γ ρ st.H ({ s with heap:=h' }:Shared):=I1.drop (fun _=>.inl) (fun _ q=>q) (fun _ q=>q) (fun _=>Iff.rfl)
  exact ⟨_,st,ρ,w,J.same,.lst hpl1 nl hl (hrl1.kept (cW (γ:=γ) (γ':=dT γ D) (s:={ s with heap:=h' }) fun _=>.inl)),I2,S1⟩
 ·refine ⟨_,_,ρ++[D],w,J.same,.loc (by rw [← I1.len]; simp),I1.adopt (.inr rfl) (fun _=>.inl) (fun _ q=>q) (fun _ q=>q) (fun _=>Iff.rfl) gD (fun q=>gD (γ.bh _ q)) rfl fun kp=>⟨ms,hpl1,hrl1.kept kp,hl⟩,⟨⟨S1.kep.keep,fun b q=>?_,fun i b e=>?_⟩⟩⟩
  ·rcases fD I1.len q with q | q
   ·exact S1.kep.live b q
   ·exact .inr (q▸dD)
  ·have:=S1.kep.pre i b e
   rw [List.getElem?_append_left (List.getElem?_eq_some_iff.mp this).1]; exact this
end
section
variable {C:Cx} {k:Nat} {γ:Gh} {env:Env} {A:Around}
theorem eC {ρ:List Addr} {st:St} {s:Shared} {ev:Value} {s':Shared} {E:Value→Shared→Prop} (p:bj C γ ρ st s (fun _ _=>False) ev s'):E ev s':=by
 obtain ⟨_,_,_,h,_⟩:=p; exact h.elim
noncomputable def Bu (Φ:Orc) (G:String→Option V) (elt:E) (x:String):V→St→(List V→St→Prop)→Prop:=
 fun v st₁ K=>wE Φ G elt (st₁.set x v) (fun r st'=>K [r] ⟨st₁.s,st'.H⟩) fun _ _=>False
noncomputable def wj (Φ:Orc) (G:String→Option V) (elt:E) (x:String) (c:E):V→St→(List V→St→Prop)→Prop:=
 fun v st₁ K=>wE Φ G c (st₁.set x v) (fun b st'=>(b=.bool true∧wE Φ G elt st' (fun r st'=>K [r] ⟨st₁.s,st'.H⟩) fun _ _=>False)∨(b=.bool false∧K [] ⟨st₁.s,st'.H⟩)) fun _ _=>False
theorem gv {elt:E} {x:String} {cs:Scope} {pelt:Expr} (he:SE C k (cc cs env.scope) elt pelt) (hr:bK (2*k+1) A γ):tN False C A γ cs env x [] pelt (Bu (Calls C k) C.glo elt x):=by
 intro γ' hf hfe Cl s ρ st v Kf E I F w
 show wpAny C.M A (pure true) _ _ s
 refine wpAny_pure ?_
 rw [if_pos rfl]
 refine wpAny_mono (he (compEnvC cs (fR env cs.names []) Cl env) A s γ' ρ (st.set x v) _ _ rfl (hr.more hf hfe) I F w) (fun y s₄ p=>?_) fun _ _ p=>eC p
 obtain ⟨r,st',ρ',h1,h2,h3,h4,h5⟩:=p
 exact ⟨r,⟨st.s,st'.H⟩,ρ',h1,rfl,h3,h4,h5,fun z=>z.elim⟩
theorem gu {elt c:E} {x:String} {cs:Scope} {pelt pc:Expr} (he:SE C k (cc cs env.scope) elt pelt) (hc:ST C k (cc cs env.scope) c pc) (hr:bK (2*k+1) A γ):
  tN False C A γ cs env x [pc] pelt (wj (Calls C k) C.glo elt x c):=by
 intro γ' hf hfe Cl s ρ st v Kf E I F w
 rw [List.forIn_cons]
 simp only [if_true]
 have w':wT (Calls C k) C.glo c (st.set x v) (fun b st'=>(b=true∧wE (Calls C k) C.glo elt st' (fun r st'=>Kf [r] ⟨st.s,st'.H⟩) fun _ _=>False)∨(b=false∧Kf [] ⟨st.s,st'.H⟩)) (fun _ _=>False):=by
  have e:(fun (b:V) (st':St)=>(b=.bool true∧wE (Calls C k) C.glo elt st' (fun r st'=>Kf [r] ⟨st.s,st'.H⟩) fun _ _=>False)∨(b=.bool false∧Kf [] ⟨st.s,st'.H⟩))=
    fun v st'=>∃ b,v=.bool b∧((b=true∧wE (Calls C k) C.glo elt st' (fun r st'=>Kf [r] ⟨st.s,st'.H⟩) fun _ _=>False)∨(b=false∧Kf [] ⟨st.s,st'.H⟩)):=by
   funext v st'
   refine propext ⟨?_,?_⟩
   ·rintro (⟨rfl,h⟩ | ⟨rfl,h⟩)
    ·exact ⟨true,rfl,.inl ⟨rfl,h⟩⟩
    ·exact ⟨false,rfl,.inr ⟨rfl,h⟩⟩
   ·rintro ⟨b,rfl,⟨rfl,h⟩ | ⟨rfl,h⟩⟩
    ·exact .inl ⟨rfl,h⟩
    ·exact .inr ⟨rfl,h⟩
  show wE _ _ _ _ _ _
  rw [← e]; exact w
 refine wpAny_bind (wpAny_bind (wpAny_mono (hc (compEnvC cs (fR env cs.names []) Cl env) A s γ' ρ (st.set x v) _ _ rfl (hr.more hf hfe) I F w') (fun ok s₃ p=>wpAny_pure ?_) fun _ _ p=>eC p))
 show wpAny C.M A (pure ok) _ _ s₃
 refine wpAny_pure ?_
 obtain ⟨st',ρ',h1,h2,h4,h5⟩:=p
 rcases h1 with ⟨rfl,h1⟩ | ⟨rfl,h1⟩
 ·rw [if_pos rfl]
  refine wpAny_mono (he (compEnvC cs (fR env cs.names []) Cl env) A s₃ γ' ρ' st' _ _ rfl (hr.more hf hfe) h4 (F.step h5 h2) h1) (fun y s₄ p=>?_) fun _ _ p=>eC p
  obtain ⟨r,st'',ρ'',g1,g2,g3,g4,g5⟩:=p
  exact ⟨r,⟨st.s,st''.H⟩,ρ'',g1,rfl,g3,g4,h5.trans g5,fun z=>z.elim⟩
 ·exact ⟨⟨st.s,st'.H⟩,ρ',h1,rfl,h4,h5,fun z=>z.elim⟩
theorem cA {pe:Expr} {env:Env} (h:bu pe=false) (x:Value):foldedSetIterable pe env x=pure x:=by
 cases pe<;>first | rfl | cases h
theorem mG {K:Prop} {it:E} {pelt pit:Expr} {x:String} {px pos:Pos} {ifs:List Expr} {cs:Scope} {f:V→St→(List V→St→Prop)→Prop} {s:Shared} {ρ:List Addr} {st:St} {Q:V→St→Prop} {X:String→St→Prop}
  (hi:SE C k env.scope it pit) (hco:cD cs env.scope x=true) (hset:bu pit=false) (T:tN K C A γ cs env x ifs pelt f) (hr:bK (2*k+1) A γ) (I:Inv C γ ρ st.H s) (F:Fra γ env st ρ s)
  (w:wE (Calls C k) C.glo it st (fun vi st=>∃ items,dR vi items∧eU f items [] st fun out st=>jH out st Q) X):
  wpAny C.M A (eval (.ListComp pelt [⟨.Name (x:Str) px,pit,ifs,0⟩] cs pos) env) (eh C γ ρ st s Q) (bj C γ ρ st s X) s:=by
 have hnm:=cO hco
 rw [eval_ListComp]
 refine wpAny_comprehension_free (use:=none) rfl (fun v=>cA hset v) (hnm.closure F) hnm.kind (fun p hp h=>hnm.loc p hp h)
  (hi.at rfl hr (At.start I F) w fun mi s₁ vi st₁ ρ₁ w₁ r₁ a₁ S₁=>?_)
 obtain ⟨items,e,w₁⟩:=w₁
 refine de (RR:=fun acc C'=>compPost C.M A (bj C γ ρ st s X) none (eh C γ ρ st s Q) acc C') hnm T hr a₁.inv a₁.fra (eK hr a₁.inv r₁ e) w₁ ?_
 intro D Cl acc ρ' st' s' dD dC nDC gD gC J hl w'
 obtain ⟨m,hm⟩:=J.ns
 exact ⟨m,hm,fun h' hs=>a₁.thenPost (gn a₁.fra dD dC nDC gD gC J hl w' hs)⟩
theorem uM {sc:Scope} {elt it:E} {x:String} {pelt pit:Expr} {px pos:Pos} {cs:Scope} (hco:cD cs sc x=true) (hset:bu pit=false) (he:SE C k (cc cs sc) elt pelt) (hi:SE C k sc it pit):SE C k sc (.comp elt x it) (.ListComp pelt [⟨.Name (x:Str) px,pit,[],0⟩] cs pos):=by
 rintro env A s γ ρ st Q X rfl hr I F w
 exact mG hi hco hset (gv he hr) hr I F w
theorem sh {sc:Scope} {elt it:E} {x:String} {pelt pit:Expr} {px pos:Pos} {cs:Scope} (hco:cD cs sc x=true) (hset:bu pit=false) (he:SE C k (cc cs sc) elt pelt) (hi:SE C k sc it pit):SE C k sc (.compX elt x it) (.ListComp pelt [⟨.Name (x:Str) px,pit,[],0⟩] cs pos):=by
 rintro env A s γ ρ st Q X rfl hr I F w
 have hnm:=cO hco
 have T:=gv (A:=A) (γ:=γ) (env:=env) (x:=x) (cs:=cs) he hr
 rw [eval_ListComp]
 refine wpAny_comprehension_free (use:=none) rfl (fun v=>cA hset v) (hnm.closure F) hnm.kind (fun p hp h=>hnm.loc p hp h)
  (hi.at rfl hr (At.start I F) w fun mi s₁ vi st₁ ρ₁ w₁ r₁ a₁ S₁=>?_)
 rcases w₁ with ⟨items,e,w₁⟩ | ⟨i,items,rfl,hH,w₁⟩
 ·refine de (RR:=fun acc C'=>compPost C.M A (bj C γ ρ st s X) none (eh C γ ρ st s Q) acc C') hnm T hr a₁.inv a₁.fra (eK hr a₁.inv r₁ e) w₁ ?_
  intro D Cl acc ρ' st' s' dD dC nDC gD gC J hl w'
  obtain ⟨m,hm⟩:=J.ns
  exact ⟨m,hm,fun h' hs=>a₁.thenPost (gn a₁.fra dD dC nDC gD gC J hl w' hs)⟩
 ·obtain ⟨a,rfl,ha⟩:=r₁.loc_inv
  have I₁:=a₁.inv
  have F₁:=a₁.fra
  obtain ⟨ms,hpl,hrl,hlen⟩:=I₁.obj i _ _ ha hH
  have kp:cG s₁.heap ρ₁ (Nl γ ρ₁ st₁.H) s₁.heap ρ₁ (Nl (lb γ a) ρ₁ (st₁.H.set i .dead)):=⟨fun _ o e _=>⟨o,e,.refl o⟩,fun b q=>.inl ((qo I₁ ha hH b).mp q),fun _ _ e=>e⟩
  have hr':bK (2*k+1) A (lb γ a):=hr.more (fun _ q=>q) fun _ q=>q
  refine de (st:=⟨st₁.s,st₁.H.set i .dead⟩) (γ:=lb γ a) (RR:=fun acc C'=>compPost C.M A (bj C γ ρ st s X) none (eh C γ ρ st s Q) acc C') hnm T hr' (I₁.lend ha hH) (F₁.lend I₁ ha hH)
   (kI (H:=st₁.H.set i .dead) (γ:=lb γ a) hr' (I₁.lend ha hH) hpl (fun q=>q.elim (fun q=>(bG I₁ ha a q).2 rfl) fun q=>q.2 (.inr rfl)) hlen (hrl.kept kp)) w₁ ?_
  intro D Cl acc ρ' st' s' dD dC nDC gD gC J hl w'
  obtain ⟨m,hm⟩:=J.ns
  exact ⟨m,hm,fun h' hs=>a₁.thenPost ((gn (F₁.lend I₁ ha hH) dD dC nDC gD gC J hl w' hs).unlend I₁ ha hH)⟩
theorem kq {sc:Scope} {elt it c:E} {x:String} {pelt pit pc:Expr} {px pos:Pos} {cs:Scope} (hco:cD cs sc x=true) (hset:bu pit=false) (he:SE C k (cc cs sc) elt pelt) (hi:SE C k sc it pit) (hc:ST C k (cc cs sc) c pc):SE C k sc (.compIf elt x it c) (.ListComp pelt [⟨.Name (x:Str) px,pit,[pc],0⟩] cs pos):=by
 rintro env A s γ ρ st Q X rfl hr I F w
 exact mG hi hco hset (gu he hc hr) hr I F w
end
end
noncomputable section
open PySem PyProof.Rows PySem.W
section
variable {γ:Gh} {C:Cx} {k:Nat} {sc:Scope} {env:Env} {A:Around} {ρ₀:List Addr} {st₀:St} {s₀:Shared} {ρ ρ':List Addr} {H H':List HO} {st:St} {s s':Shared} {X:String→St→Prop}
theorem nA {α:Type} {l:List α} {n i:Nat} {a:α} (h:(l.take n)[i]?= some a):l[i]?= some a:=by
 rw [List.getElem?_take] at h
 split at h
 ·exact h
 ·cases h
theorem dt {n:Nat} {a:Addr} (h:Lv (ρ.take n) (H.take n) a):Lv ρ H a:=by
 obtain ⟨i,o,h1,h2,h3⟩:=h
 rw [List.getElem?_take] at h1 h2
 split at h1
 ·rename_i hi
  rw [if_pos hi] at h2
  exact ⟨i,o,h1,h2,h3⟩
 ·cases h1
theorem Inv.cut {n:Nat} (I:Inv C γ ρ H s) (hz:az (H.take n)→∀ a,¬ γ.e a) (hl: ∀ (i:Nat) o,i < n→H[i]?= some o→lowO n o):Inv C γ (ρ.take n) (H.take n) s:=by
 refine ⟨I.base,by simp [I.len],I.nodup.sublist (List.take_sublist n ρ),fun a h=>I.fresh a (List.mem_of_mem_take h),fun a h=>I.there a (List.mem_of_mem_take h),fun i a o h1 h2=>?_,fun a h=>I.apart a (List.mem_of_mem_take h),fun i a o h1 q h2=>I.bor i a o (nA h1) q (nA h2),I.held,I.off,I.frm,(fun b q=>let ⟨x,l,nh⟩:=I.hdl b q; ⟨x,fun z=>l (dt z),nh⟩),hz,I.gens,I.os⟩
 rw [List.getElem?_take] at h1 h2
 split at h1
 ·rename_i hi
  rw [if_pos hi] at h2
  have:=I.obj i a o h1 h2
  have hlo:=hl i o hi h2
  have cN: ∀ a,Nl γ (ρ.take n) (H.take n) a→Nl γ ρ H a:=fun a q=>q.imp dt id
  cases o with
  | list vs=>
   obtain ⟨ms,q1,q2,q3⟩:=this
   exact ⟨ms,q1,q2.cut cN hlo,q3⟩
  | inst _=>exact this
  | obj j=>
   obtain ⟨q0,d,q1,q2⟩:=this
   exact ⟨q0,d,by rw [List.getElem?_take,if_pos (show j < n from hlo)]; exact q1,q2⟩
  | attrs fs=>
   obtain ⟨es,m,q1,q2⟩:=this
   exact ⟨es,m,q1,q2.cut cN hlo⟩
  | dictS kvs=>
   obtain ⟨ms,q1,q2,q3⟩:=this
   exact ⟨ms,q1,q2.cut cN hlo,q3⟩
  | dictI kvs=>
   obtain ⟨ms,q1,q2,q3⟩:=this
   exact ⟨ms,q1,q2.cut cN hlo,q3⟩
  | dead=>trivial
 ·cases h1
theorem Inv.lowO (I:Inv C γ ρ H s) {i:Nat} {o:HO} (h:H[i]?= some o):Mine.lowO H.length o:=by
 have hi:i < ρ.length:=by rw [I.len]; exact (List.getElem?_eq_some_iff.mp h).1
 have:=I.obj i _ o (List.getElem?_eq_getElem hi) h
 rw [← I.len]
 cases o with
 | list vs=>obtain ⟨ms,q1,q2,q3⟩:=this; exact q2.lows
 | inst _=>trivial
 | obj j=>obtain ⟨_,d,q1,_⟩:=this; exact (List.getElem?_eq_some_iff.mp q1).1
 | attrs fs=>obtain ⟨es,m,q1,q2⟩:=this; exact q2.lows
 | dictS kvs=>obtain ⟨ms,q1,q2,q3⟩:=this; exact q2.lows
 | dictI kvs=>obtain ⟨ms,q1,q2,q3⟩:=this; exact q2.lows
 | dead=>trivial
theorem Stp.cut {n:Nat} (S:Stp ρ H s ρ' H' s') (hn:ρ.length≤n):Stp ρ H s (ρ'.take n) (H'.take n) s':=
 ⟨⟨S.kep.keep,fun a q=>S.kep.live a (dt q),fun i a e=>by
  rw [List.getElem?_take,if_pos (by have:=(List.getElem?_eq_some_iff.mp e).1; exact li [i,n,_] [([3],[2]),([1,0],[3])] [1,0] [2] rfl hn this)]; exact S.kep.pre i a e⟩⟩
theorem mS {v:V} {m:Value} {j:Nat} {fs:List (String×V)} (I:Inv C γ ρ H s) (r:Rel s.heap ρ (Nl γ ρ H) v m) (h:fc H v j fs):
  wF C.base C.mg C.K C.cls C.meths C.ats C.fa∧∃ x d es n,m=.ref x∧(ρ[j]?= some d∧H[j]?= some (.attrs fs))∧s.heap.get? d=some (dictOf es n)∧ik s.heap ρ (Nl γ ρ H) fs es∧InstAt s.heap x (instObj C.cls d) C.cls (some (dictOf es n)):=by
 cases h with
 | mk h1 h2=>
  obtain ⟨x,rfl,hx⟩:=r.loc_inv
  obtain ⟨hm,d,hd,ho⟩:=I.obj _ x _ hx h1
  obtain ⟨es,n,g1,g2⟩:=I.obj _ d _ hd h2
  exact ⟨C.hcls hm,x,d,es,n,rfl,⟨hd,h2⟩,g1,g2,⟨ho,rfl,rfl,g1⟩⟩
theorem Inv.frag (I:Inv C γ ρ H s) {K:Frag} (h:K.In C.base):K.In s.heap:=fun a o q=>I.base a o (h a o q)
theorem uJ {a:E} {pa:Expr} {p p' q:Pos} (hm:C.meths≠[]) (hk:bD sc "isinstance" =true) (hk':bD sc "Store" =true) (hh:aW pa=true) (ha:SE C k sc a pa):SE C k sc (.isiS a) (.Call (.Name ("isinstance" :String) p) [pa,.Name (("Store" :String):Str) p'] [] q):=fun env A s γ ρ st Q X hs hr I F w=>
 nj hk hh rfl ha hs hr I F w (fun I F h=>eO I F (C.hcls hm).glo (hs▸hk') h) fun mv s' v st' ρ' w' r' a'=>by
  obtain ⟨j,fs,o,hQ⟩:=w'
  obtain ⟨cl,x,d,es,n,rfl,_,g1,g2,inst⟩:=mS a'.inv r' o
  have e:=cl.isi
  simp only [lS,Bool.and_eq_true,beq_iff_eq] at e
  obtain ⟨⟨⟨⟨⟨⟨e1,e2⟩,e3⟩,e4⟩,e5⟩,e6⟩,e7⟩:=e
  exact ⟨true,hQ,kia_one (kitx_own e1 e2 e3 e4 e5 e6) (a'.inv.frag cl.inn) inst e7 (fun z=>by cases z) fun tk=>⟨.bool _,tk,rfl⟩⟩
theorem yT {h:Heap} {N:Addr→Prop} {v:V} {m:Value} (r:Rel h ρ N v m):handedIn m=true:=by cases r<;>rfl
theorem uQ {a:E} {x:String} {pa:Expr} {p:Pos} (hh:aW pa=true) (hx:x∈C.ats) (ha:SE C k sc a pa):SE C k sc (.attr a x) (.Attribute pa (x:Str) p):=fun env A s γ ρ st Q X hs hr I F w=>by
 rw [arm_eval_Attribute,mm hh]
 refine wpAny_bind (ha.at hs hr (At.start I F) w fun ma s₁ va st₁ ρ₁ w₁ r₁ a₁ S₁=>?_)
 obtain ⟨j,fs,u,ho,hl,hQ⟩:=w₁
 obtain ⟨cl,x',d,es,n,rfl,hd,g1,g2,inst⟩:=mS a₁.inv r₁ ho
 have g:=g2.get x
 rw [hl] at g
 obtain ⟨mv,g3,g4⟩:=g
 refine wpAny_bind (wpAny_standAt (wpAny_bind (wpAny_holding (get_value (a₁.inv.frag cl.inn) inst cl.get.1 (findObj_own cl.hasD (cl.attr x hx) rfl g3) (yT g4) ?_))))
 exact wpAny_bind (wpAny_letTemporaryGo (wpAny_pure ((a₁.grew (bL.toks _ _)).post hQ g4)))
theorem wk {f:String} {fa:Addr} {vs:List V} {ms:List Value} {W:Prop} {Q:V→St→Prop} (hr:bK (2*k) A γ) (hfa:C.fa f=some fa) (a:At C γ env ρ₀ st₀ s₀ ρ st s) (r:aI s.heap ρ (Nl γ ρ st.H) vs ms)
  (w:(∃ v H',Calls C k f vs st.H (.ok v) H'∧Q v ⟨st.s,H'⟩)∨∃ c H',Calls C k f vs st.H (.err c) H'∧X c ⟨st.s,H'⟩):wpAny C.M A (call (.ref fa) ms) (eh C γ ρ₀ st₀ s₀ Q) (bj C γ ρ₀ st₀ s₀ X) s:=by
 rcases w with ⟨v,H',hc,hQ⟩ | ⟨c,H',hc,hX⟩
 ·refine wpAny_call (codeAny_mono (hc A s γ ρ ms fa hr a.inv r hfa) fun res s' p=>?_)
  cases res with
  | error e=>exact p.elim
  | ok fl=>
   cases fl<;>first | exact p.elim | skip
   obtain ⟨ρ',p1,p2,p3⟩:=p
   exact ⟨v,_,ρ',hQ,a.same,p1,p2,a.stp.trans p3⟩
 ·refine wpAny_call (codeAny_mono (hc A s γ ρ ms fa hr a.inv r hfa) fun res s' p=>?_)
  cases res with
  | ok fl=>cases fl<;>exact p.elim
  | error e=>
   obtain ⟨ρ',p1,p2,p3⟩:=p
   exact ⟨c,_,ρ',hX,a.same,p1.back (a.stp.back a.inv),p2,a.stp.trans p3⟩
theorem sf {f m:String} {a:E} {es:Es} {pa:Expr} {pes:List Expr} {ap p:Pos} (hm:(m,f)∈C.meths) (hh:aW pa=true) (hlt:pes.length < 20) (hline:ap.endLine=p.line) (ha:SE C k sc a pa) (hes:SEs C k sc es pes):
  SE C k sc (.mcall f m a es) (.Call (.Attribute pa (m:Str) ap) pes [] p):=fun env A s γ ρ st Q X hs hr I F w=>by
 have star:=dj (env:=env) (pos:=p) hes.1
 have few:((backTo p (starEach pes env)).all (fun x=>!x.1) && (backToKw p (keywordEach [] env)).all (fun x=>x.1.isSome) && decide (pes.length+([]:List Keyword).length+(if ([]:List Keyword).isEmpty then 0 else 1) < 30))=true:=by
  simp only [Bool.and_eq_true,decide_eq_true_eq]
  refine ⟨⟨?_,by rfl⟩,Nat.lt_trans hlt (by decide)⟩
  rw [List.all_eq_true]
  intro x hx
  have:=List.any_eq_false.mp star x hx
  simpa using this
 have hform:methodCallForm (pes.length+([]:List Keyword).length) (backTo p (starEach pes env)) (backToKw p (keywordEach [] env))=true:=few
 have hpos:methodCallPos true pa env ap p=pure p:=by unfold methodCallPos; simp [hline]
 rw [arm_eval_Call,mm hh]
 refine wpAny_bind (ha.at hs hr (At.start I F) w fun mo s₁ o st₁ ρ₁ w₁ r₁ a₁ S₁=>?_)
 obtain ⟨⟨j,fs,ho,hl⟩,w₁⟩:=w₁
 obtain ⟨cl,x,d,es',n,rfl,hd,g1,g2,inst⟩:=mS a₁.inv r₁ ho
 obtain ⟨fa,hfa,hf,ht,hk⟩:=cl.meth _ hm
 have g:=g2.get m
 rw [hl] at g
 refine wpAny_bind (wpAny_standAt ?_)
 unfold methodCall
 rw [hform]
 refine wpAny_bind (wpAny_holding (method_fn (a₁.inv.frag cl.inn) inst cl.get.1 cl.get.2 hf ht (by show (lookIn _ (dictOf es' n)).map _=_; rw [lookIn_dict,g]; rfl) ?_))
 refine wpAny_bind (wpAny_of_eq hpos ?_)
 refine callWith_of (P:=C.K.In) (by rw [star]; rfl) (keeps_K hk) (bR hes hs hr a₁ w₁ fun ms s₂ vs st₂ ρ₂ hn w₂ r₂ a₂ S₂=>⟨a₂.inv.frag cl.inn,?_⟩)
 exact wk (W:=True) (hr.mono (Nat.le_succ _)) hfa a₂ (.cons (r₁.kept S₂.kept) r₂) w₂
theorem uG {es:Es} {pes:List Expr} {p q:Pos} (hne:C.meths≠[]) (hk:bD sc "Store" =true) (hes:SEs C k sc es pes):SE C k sc (.make es) (.Call (.Name (("Store" :String):Str) p) pes [] q):=fun env A s γ ρ st Q X hs hr I F w=>by
 have cl:=C.hcls hne
 refine Call_ (eO I F cl.glo (hs▸hk) (callWith_of (P:=C.K.In) (by rw [dj hes.1]; rfl) (keeps_K cl.keep) (bR hes hs hr (At.start I F) w fun ms s₁ vs st₁ ρ₁ hn w₁ r₁ a₁ S₁=>⟨a₁.inv.frag cl.inn,?_⟩)))
 obtain ⟨fi,hfi,hf,ht⟩:=cl.init
 have KI:=a₁.inv.frag cl.inn
 obtain ⟨hh,g,d,t,os⟩:=s₁
 have nw:hh.get? hh.objs.size=none:=aE _
 obtain ⟨I2,S2⟩:=a₁.inv.snoc (s':=⟨hh.push emptyDict,g,d,t,os⟩) (o:=.attrs []) (bL.push ⟨hh,g,d,t,os⟩ _ t) nw ⟨_,Heap.get?_push_size _ rfl⟩ ⟨[],0,Heap.get?_push_size _ rfl,.nil⟩
 have sz:(hh.push emptyDict).objs.size=hh.objs.size+1:=Heap.size_push ..
 obtain ⟨I3,S3⟩:=I2.snoc (s':=⟨(hh.push emptyDict).push (instObj C.cls hh.objs.size),g,d,t,os⟩) (o:=.obj st₁.H.length) (a:=hh.objs.size+1) (bL.push ⟨hh.push emptyDict,g,d,t,os⟩ _ t) (by rw [← sz]; exact aE _)
  ⟨_,by rw [← sz]; exact Heap.get?_push_size _ rfl⟩ ⟨hne,hh.objs.size,by rw [← a₁.inv.len,List.getElem?_append_left (by simp),List.getElem?_append_right (Nat.le_refl _),Nat.sub_self]; rfl,by rw [← sz]; exact Heap.get?_push_size _ rfl⟩
 have a3:At C γ env ρ st s (ρ₁++[hh.objs.size]++[hh.objs.size+1]) ⟨st₁.s,st₁.H++[.attrs []]++[.obj st₁.H.length]⟩ ⟨(hh.push emptyDict).push (instObj C.cls hh.objs.size),g,d,t,os⟩:=
  ⟨I3,a₁.fra.step (st':=⟨st₁.s,st₁.H++[.attrs []]++[.obj st₁.H.length]⟩) (S2.trans S3) rfl,a₁.stp.trans (S2.trans S3),a₁.same⟩
 have rs:aI ((hh.push emptyDict).push (instObj C.cls hh.objs.size)) (ρ₁++[hh.objs.size]++[hh.objs.size+1]) (Nl γ (ρ₁++[hh.objs.size]++[hh.objs.size+1]) (st₁.H++[.attrs []]++[.obj st₁.H.length])) (.loc (st₁.H.length+1)::vs) (.ref (hh.objs.size+1)::ms):=
  .cons (.loc (by rw [List.getElem?_append_right (by rw [List.length_append,a₁.inv.len]; exact Nat.le_refl _),List.length_append,a₁.inv.len]; simp)) (r₁.kept (S2.trans S3).kept)
 have hr':bK (2*k) (A.under (.builtin "type.__call__" ⟨.ref C.cls::ms,[]⟩)) γ:=
  have hu:Code.cUnits (.builtin "type.__call__" ⟨.ref C.cls::ms,[]⟩)≤4:=by show (_:Nat)≤4; exact Nat.le_of_ble_eq_true rfl
  ⟨by have:=hr.depth; show A.depth+1+2*k < 900; exact lin [_,k] [(1,.a (.a (.v 0) (.a (.m 2 (.v 1)) (.n 1))) (.n 1),.n 900)] 1 (.a (.a (.a (.v 0) (.n 1)) (.m 2 (.v 1))) (.n 1)) (.n 900) rfl this,by have:=hr.units; show A.units+Code.cUnits (.builtin "type.__call__" ⟨.ref C.cls::ms,[]⟩)+4*(2*k) < 9000; exact lin [_,_,k] [(1,.v 1,.n 4),(1,.a (.a (.v 0) (.m 4 (.a (.m 2 (.v 2)) (.n 1)))) (.n 1),.n 9000)] 1 (.a (.a (.a (.v 0) (.v 1)) (.m 4 (.m 2 (.v 2)))) (.n 1)) (.n 9000) rfl hu this,hr.hdl,hr.frs⟩
 refine wpAny_call (make_core (makes_of KI cl.makes) (looks_findIn KI hf) (fun self=>bind_fn KI self ht) (.inl rfl) ?_)
 rcases w₁ with ⟨H',hc,hQ⟩ | ⟨c,H',hc,htk,hX⟩
 ·refine codeAny_mono (hc _ _ γ _ _ fi hr' I3 rs hfi) fun res s' p=>?_
  cases res with
  | error e=>exact p.elim
  | ok fl=>
   cases fl<;>first | exact p.elim | skip
   obtain ⟨ρ',p1,p2,p3⟩:=p
   obtain rfl:=p1.none_inv
   refine ⟨rfl,⟨_,⟨st₁.s,H'⟩,ρ',hQ,a₁.same,.loc (p3.kep.pre _ _ ?_),p2,a3.stp.trans p3⟩⟩
   rw [List.getElem?_append_right (by rw [List.length_append,a₁.inv.len]; exact Nat.le_refl _),List.length_append,a₁.inv.len]; simp
 ·refine codeAny_mono (hc _ _ γ _ _ fi hr' I3 rs hfi) fun res s' p=>?_
  cases res with
  | ok fl=>cases fl<;>exact p.elim
  | error e=>
   obtain ⟨ρ',p1,p2,p3⟩:=p
   have hn:ρ₁.length≤st₁.H.length:=by rw [a₁.inv.len]; exact Nat.le_refl _
   have I4:Inv C γ (ρ'.take st₁.H.length) (H'.take st₁.H.length) s':=p2.cut (fun z=>a₁.inv.hq (htk▸z)) fun i o hi ho=>by
    have:st₁.H[i]?= some o:=by rw [← htk,List.getElem?_take,if_pos hi]; exact ho
    exact a₁.inv.lowO this
   have S4:=((S2.trans S3).trans p3).cut hn
   rw [htk] at I4 S4
   exact ⟨c,st₁,_,hX,a₁.same,p1.back (a3.stp.back a3.inv),I4,a₁.stp.trans S4⟩
theorem uL {p:Pos}:SE C k sc .dict (.Dict [] [] p):=fun env A s γ ρ st Q X hs hr I F w=>by
 have ne:s.heap.objs.size≠sysModules:=Nat.ne_of_gt (modules_low (C.nolimit.keeps I.base))
 refine wpAny_Dict_empty ?_
 rcases w with w | w
 ·obtain ⟨I',S'⟩:=I.snoc (s':={ s with heap:=s.heap.push { cls:=.type "dict",data:=.dict #[]}}) (o:=.dictS []) (bL.push s _ s.toks) (aE _) ⟨_,Heap.get?_push_size _ rfl⟩ ⟨[],Heap.DictOf.new _,.nil,⟨Nat.zero_le _,ne⟩,fun _ h=>nomatch h⟩
  exact ⟨_,_,_,w,rfl,.loc (by rw [← I.len]; simp),I',S'⟩
 ·obtain ⟨I',S'⟩:=I.snoc (s':={ s with heap:=s.heap.push { cls:=.type "dict",data:=.dict #[]}}) (o:=.dictI []) (bL.push s _ s.toks) (aE _) ⟨_,Heap.get?_push_size _ rfl⟩ ⟨[],Heap.DictOf.new _,.nil,Nat.zero_le _,ne⟩
  exact ⟨_,_,_,w,rfl,.loc (by rw [← I.len]; simp),I',S'⟩
theorem kx {x:String} {v:V} {vo:V} {mv mo:Value} {j:Nat} {fs:List (String×V)} {Ex:Value→Shared→Prop} {Q:Unit→Shared→Prop} (hx:x∈C.ats) (I:Inv C γ ρ H s) (ro:Rel s.heap ρ (Nl γ ρ H) vo mo) (rv:Rel s.heap ρ (Nl γ ρ H) v mv) (ho:fc H vo j fs) (hl:fs.length < 900)
  (h: ∀ s',Inv C γ ρ (H.set j (.attrs (rJ x v fs))) s'→Stp ρ H s ρ (H.set j (.attrs (rJ x v fs))) s'→Q () s'):wpAny C.M A (setAttr mo (x:Str) mv) Q Ex s:=by
 obtain ⟨cl,x',d,es,n,rfl,⟨hd,hj⟩,g1,g2,inst⟩:=mS I ro ho
 have KI:=I.frag cl.inn
 refine set_plain KI inst cl.set (osa_open (s:={ s with toks:=s.toks+1 }) KI inst cl.over (r:=none) (by unfold takerIn; rw [cl.attr x hx]; rfl) fun b=>?_)
 obtain ⟨cd,hc,hdd⟩:=any_some cl.hasD
 refine wpAny_bind (wpAny_pure (wpAny_bind (wpAny_bind (wpAny_loadPart inst.at_ (wpAny_bind (Looks.here (s:={ s with toks:=s.toks+1 }) (looks_clsIn KI hc) ?_))))))
 rw [hdd]
 refine wpAny_pure (a:=some d) (wpAny_bind (wpAny_pure (wpAny_bind ?_)))
 unfold nsSet
 refine wpAny_bind (wpAny_bind (wpAny_askSetting (wpAny_pure (wpAny_bind (wpAny_mkText (wpAny_bind (wpAny_loadPart (show s.heap.get? d=_ from g1) ?_)))))))
 dsimp only
 rw [aRefKeyMayBeTheName_at,show (!es.toArray.any (·.key.isStr (x:Str)) && es.toArray.any (·.refKey))=false by rw [← Array.any_toList (p:=DictEntry.refKey),g2.noRef,Bool.and_false]]
 refine wpAny_updatePart g1 ?_
 have e1:=putName_dict (x:Str) (PyData.keyHash C.w.params (x:Str)) (.str (x:Str) (s.toks+1)) mv es n
 have fr:(Obj.putName (x:Str) (PyData.keyHash C.w.params (x:Str)) (.str (x:Str) (s.toks+1)) mv (dictOf es n)).isFreed=false:=by rw [e1]; rfl
 have u1:=Heap.get?_update_self (Obj.putName (x:Str) (PyData.keyHash C.w.params (x:Str)) (.str (x:Str) (s.toks+1)) mv) g1 fr
 rw [e1] at u1
 have ra:=g2.put x rv (PyData.keyHash C.w.params (x:Str)) (s.toks+1)
 refine wpAny_bind (wpAny_lookBehind u1 (pastItsLine_dict (by rw [List.size_toArray,← ra.length]; have:=lH x v fs; exact Nat.le_trans this (show fs.length+1≤16777216+1 by exact lin [_] [(1,.a (.v 0) (.n 1),.n 900)] 1 (.a (.v 0) (.n 1)) (.a (.n 16777216) (.n 1)) rfl hl))) (wpAny_pure ?_))
 obtain ⟨I',S'⟩:=I.upd (s':={ s with heap:=s.heap.update d (Obj.putName (x:Str) (PyData.keyHash C.w.params (x:Str)) (.str (x:Str) (s.toks+1)) mv),toks:=s.toks+1+1 }) (o':=.attrs (rJ x v fs)) hd hj rfl rfl (fun b hb=>Heap.get?_update_other _ _ (Ne.symm hb)) ⟨_,u1⟩ rfl rfl fun kp=>
  ⟨_,_,u1,ra.map fun _ _ q=>q.kept kp⟩
 exact h _ I' S'
end
end
noncomputable section
open PySem PyProof.Rows
noncomputable def rM (x:String):Bool:=!((x:Str) == ("__debug__" :Str)) && !((x:Str) == ("__classdict__" :Str)) && !((x:Str) == (".0" :Str))
section
variable {C:Cx} {k:Nat} {γ:Gh} {env:Env} {A:Around} {ρ:List Addr} {st:St} {s:Shared} {E:Value→Shared→Prop}
theorem eP {x:String} {p:Pos} {v:V} {Q:Value→Shared→Prop} (hk:ej env.scope x=true) (hd:rM x=true) (F:Fra γ env st ρ s) (hv:st.s x=some v) (fin: ∀ mv,Rel s.heap ρ (Nl γ ρ st.H) v mv→Q mv s):wpAny C.M A (eval (.Name (x:Str) p) env) Q E s:=by
 simp only [rM,Bool.and_eq_true,beq_iff_eq,Bool.not_eq_true',ej,Bool.or_eq_true,kd] at hk hd
 have hz:(x:Str)≠(".0" :Str):=fun e=>by rw [e] at hd; cases hd.2
 refine wpAny_Name ?_ hd.1.1
 rcases hk with (hk | hk) | hk
 ·obtain ⟨m,hn,hl⟩:=F.ns
  obtain ⟨mv,e1,e2⟩:=hl x v hk hz hv
  exact wpAny_loadName_local F.kind hk hn e1 (fin _ e2)
 ·obtain ⟨c,ov,h1,h2,h3,h4⟩:=F.cell x (.inl hk)
  obtain ⟨mv,rfl,e2⟩:=h4 x rfl v hv
  exact wpAny_loadName_cell F.kind hk h1 h3 (fin _ e2)
 ·obtain ⟨c,ov,h1,h2,h3,h4⟩:=F.cell x (.inr hk)
  obtain ⟨mv,rfl,e2⟩:=h4 x rfl v hv
  exact wpAny_loadName_free F.kind hk h1 h3 (fin _ e2) hd.1.2
theorem wi {h:Heap} {ρ:List Addr} {N:Addr→Prop} {kvs:List (Int×V)} {ms:List (Int×Value)} (r:fj h ρ N id kvs ms): ∀ (i:Nat) (k:Int) (x:Value),ms[i]?= some (k,x)→(kvs[i]?).map (fun p:Int×V=>p.1)=some k:=by
 induction r with
 | nil=>intro i k x h; cases h
 | cons a _ ih=>
  intro i k x h
  cases i with
  | zero=>cases h; rfl
  | succ i=>exact ih i k x h
theorem qB {d:Addr} {kvs:List (Int×V)} {ms:List (Int×Value)} {H:List HO} (hh:A.handled=none) (J:Inv C γ ρ H s) (hD:s.heap.DictOf (intKind C.prog C.w) d ms) (hr:fj s.heap ρ (Nl γ ρ H) id kvs ms) (hl:kvs.length≤au) (hm:d≠sysModules):
  wpAny C.M A (pyIter (.ref d)) (fe True C A (Off γ ρ H) (Nl γ ρ H) ρ s (kvs.map fun p=>.int p.1)) E s:=by
 obtain ⟨ep,hat⟩:=hD.dictAt
 obtain ⟨o,es,ho,hr'⟩:=id hat
 have hne:d≠s.heap.objs.size:=fun q=>by rw [q,aE] at ho; cases ho
 have keep: ∀ (x:Obj) b o,s.heap.get? b=some o→(s.heap.push x).get? b=some o:=fun x b o e=>Heap.get?_push_of_some _ e
 refine wpAny_pyIter_dict (beq_eq_false_iff_ne.mpr hm) hat ⟨s.heap.objs.size,[s.heap.objs.size,d],(fun i v=>∃ k x,ms[i]?= some (k,x)∧(intKind C.prog C.w).is k v=true),(fun i h=>h.IsKeyIter s.heap.objs.size d i ms.length ep∧h.DictAt (intKind C.prog C.w) d ms ep),rfl,aE _,bL.push s _ s.toks,⟨⟨_,Heap.get?_push_size _ rfl,rfl,rfl⟩,hat.at' fun o e=>keep _ _ o e⟩,⟨?_,fun i h q=>?_,fun i v mv e1 e2=>?_,fun b hb=>?_,by rw [List.length_map]; exact hl⟩⟩
 ·rw [List.length_map,hr.length]; exact Walks.dictKeys hh _ d hne ms ep
 ·obtain ⟨⟨o,h1,_,h2⟩,_⟩:=q; exact ⟨o,h1,fun es n q=>by rw [h2] at q; cases q⟩
 ·obtain ⟨k,x,e3,e4⟩:=e2
  rw [List.getElem?_map] at e1
  obtain ⟨p,e5,rfl⟩:=Option.map_eq_some_iff.mp e1
  have:=wi hr i k x e3
  rw [e5] at this
  cases this
  obtain ⟨t,rfl⟩:=Value.isInt_shape e4
  exact .int _ t
 ·rcases List.mem_cons.mp hb with q | q
  ·exact .inl q
  ·rw [List.mem_singleton.mp q]; exact .inr (.inr ⟨trivial,o,ho⟩)
noncomputable def uZ (d:String):V→St→(List V→St→Prop)→Prop:=fun v st Kf=>∃ (n:Int) (i:Nat) (kvs:List (Int×V)) (u:V),v=.int n∧st.s d=some (.loc i)∧st.H[i]?= some (.dictI kvs)∧kvs.lookup n=some u∧Kf [.tup [.int n,u]] st
theorem iL {d:String} {i:Nat} {kvs:List (Int×V)} {Kf:List V→St→Prop} (h1:st.s d=some (.loc i)) (h2:st.H[i]?= some (.dictI kvs)): ∀ (ps:List (Int×V)) (acc:List V),(∀ p∈ps,kvs.lookup p.1=some p.2)→Kf (acc++ps.map fun p=>.tup [.int p.1,p.2]) st→eU (uZ d) (ps.map fun p=>.int p.1) acc st Kf
 | [],acc,_,w=>by rw [List.map_nil,List.append_nil] at w; exact w
 | p::r,acc,h,w=>⟨p.1,i,kvs,p.2,rfl,h1,h2,h p List.mem_cons_self,iL h1 h2 r _ (fun q hq=>h q (List.mem_cons_of_mem _ hq)) (by rw [List.append_assoc]; exact w)⟩
theorem nX {d x:String} {cs:Scope} {p1 p2 p3 p4 p5:Pos} {u:Nat} (hx:ej (cc cs env.scope) x=true) (hd:ej (cc cs env.scope) d=true) (ox:rM x=true) (od:rM d=true) (hne:d≠x):
  tN True C A γ cs env x [] (.Tuple [.Name (x:Str) p1,.Subscript (.Name (d:Str) p2) (.Name (x:Str) p3) p4] u p5) (uZ d):=by
 rintro γ' hf hfe Cl s ρ st v Kf E I F ⟨n,i,kvs,z,rfl,h1,h2,h3,w⟩
 show wpAny C.M A (pure true) _ _ s
 refine wpAny_pure ?_
 rw [if_pos rfl]
 have vx:(st.set x (.int n)).s x=some (.int n):=by show (if _ then _ else _)=_; rw [if_pos rfl]
 have vd:(st.set x (.int n)).s d=some (.loc i):=by show (if _ then _ else _)=_; rw [if_neg hne]; exact h1
 refine Tuple_ (args_cons (eP hx ox F vx fun m1 r1=>args_cons (Subscript_ (eP hd od F vd fun m2 r2=>eP hx ox F vx fun m3 r3=>wpAny_mono (mK I (.keyI h2 h3) r2 r3) (fun mv s₁ p=>?_) fun _ _ e=>e)) (cj rfl)) (cj rfl))
 obtain ⟨r4,tk,rfl⟩:=p
 refine Calls.spliced_nil ?_
 have g1:bL s ({ s with toks:=tk }:Shared):=bL.toks s tk
 have I1:Inv C γ' ρ st.H ({ s with toks:=tk }:Shared):=g1.inv I
 refine wpAny_mono (eH (vs:=[.int n,z]) I1 (.cons r1 (.cons r4 .nil)) (show 2≤au by decide)) (fun y s₄ p=>?_) fun _ _ e=>e
 obtain ⟨q1,q2⟩:=p
 have g:=g1.trans q2
 exact ⟨_,st,ρ,w,rfl,q1,g.inv I,g.stp,fun _=>g.keep⟩
theorem pQ {sc:Scope} {d x:String} {cs:Scope} {p0 p1 p2 p3 p4 p5 p6 pos:Pos} {u:Nat} (hco:cD cs sc x=true) (vd:ej sc d=true) (hx:ej (cc cs sc) x=true) (hd:ej (cc cs sc) d=true) (ox:rM x=true) (od:rM d=true):
  SE C k sc (.dpairs d x) (.ListComp (.Tuple [.Name (x:Str) p1,.Subscript (.Name (d:Str) p2) (.Name (x:Str) p3) p4] u p5) [⟨.Name (x:Str) p0,.Name (d:Str) p6,[],0⟩] cs pos):=by
 rintro env A s γ ρ st Q X rfl hr I F ⟨i,kvs,h1,h2,nz,hne,hlk,w⟩
 have hnm:=cO hco
 rw [eval_ListComp]
 refine wpAny_comprehension_free (use:=none) rfl (fun v=>cA rfl v) (hnm.closure F) hnm.kind (fun p hp h=>hnm.loc p hp h)
  (eP vd od F h1 fun mi r=>?_)
 obtain ⟨a,rfl,ha⟩:=r.loc_inv
 obtain ⟨ms,hD,hrr,hl,hm⟩:=I.obj _ a _ ha h2
 refine de (K:=True) (f:=uZ d) (Kf:=fun out st=>jH out st Q) (RR:=fun acc C'=>compPost C.M A (bj C γ ρ st s X) none (eh C γ ρ st s Q) acc C') hnm (nX hx hd ox od hne) hr I F (qB (hr.handled I nz) I hD hrr hl hm) (iL h1 h2 kvs [] hlk w) ?_
 intro D Cl acc ρ' st' s' dD dC nDC gD gC J hl w'
 obtain ⟨m,hm⟩:=J.ns
 exact ⟨m,hm,fun h' hs=>gn F dD dC nDC gD gC J hl w' hs⟩
end
end
noncomputable section
open PySem PyProof.Rows
structure Nm where
 all:List String
 fns:List String
 exs:List String
 meths:List (String×String)
 ats:List String
noncomputable def Cx.nm (C:Cx) (l:List String):Nm:=⟨l,C.fns,C.exs,C.meths,C.ats⟩
noncomputable def nm (l:List String) (y:Str):Option { x:String // (x:Str)=y }:=l.findSome? fun (x:String)=>if h:(x:Str)=y then some ⟨x,h⟩ else none
noncomputable def fQ (e:Expr):Option { x:Str×Pos // e=.Name x.1 x.2 }:=match e with
 | .Name x p=>some ⟨(x,p),rfl⟩
 | _=>none
noncomputable def yV (e:Expr):Option { x:Expr×Str×Pos // e=.Attribute x.1 x.2.1 x.2.2 }:=match e with
 | .Attribute a m p=>some ⟨(a,m,p),rfl⟩
 | _=>none
noncomputable def DG (e:Expr):Option { x:Option Expr×Option Expr×Option Expr×Pos // e=.Slice x.1 x.2.1 x.2.2.1 x.2.2.2 }:=match e with
 | .Slice a b c p=>some ⟨(a,b,c,p),rfl⟩
 | _=>none
noncomputable def DF (e:Expr):Option { x:List Expr×Nat×Pos // e=.Tuple x.1 x.2.1 x.2.2 }:=match e with
 | .Tuple es u p=>some ⟨(es,u,p),rfl⟩
 | _=>none
noncomputable def Ch (e:Expr):Option { x:Expr×Expr×Pos // e=.Subscript x.1 x.2.1 x.2.2 }:=match e with
 | .Subscript a i p=>some ⟨(a,i,p),rfl⟩
 | _=>none
noncomputable def one {α:Type} (l:List α):Option { x:α // l=[x]}:=l.head?.bind fun x=>l.rec none fun y r _=>r.rec (some ⟨y,rfl⟩) fun _ _ _=>none
noncomputable def two {α:Type} (l:List α):Option { x:α×α // l=[x.1,x.2]}:=l.rec none fun y r _=>r.rec none fun z r' _=>r'.rec (some ⟨(y,z),rfl⟩) fun _ _ _=>none
noncomputable def DM (g:String):Option { f:BN // f.name=g }:=
 if h: "len" =g then some ⟨.len,h⟩ else if h: "str" =g then some ⟨.str,h⟩ else if h: "int" =g then some ⟨.int,h⟩ else if h: "range" =g then some ⟨.range,h⟩ else if h: "list" =g then some ⟨.list,h⟩ else if h: "sorted" =g then some ⟨.sorted,h⟩ else if h: "max" =g then some ⟨.max,h⟩ else if h: "min" =g then some ⟨.min,h⟩ else none
noncomputable def Df (g:String):Option { f:MN // f.name=g }:=
 if h: "append" =g then some ⟨.append,h⟩ else if h: "startswith" =g then some ⟨.startswith,h⟩ else if h: "pop" =g then some ⟨.pop,h⟩ else if h: "index" =g then some ⟨.index,h⟩ else if h: "split" =g then some ⟨.split,h⟩ else if h: "join" =g then some ⟨.join,h⟩ else if h: "get" =g then some ⟨.get,h⟩ else if h: "extend" =g then some ⟨.extend,h⟩ else none
noncomputable def mOf (g:String):(l:List (String×String))→Option { f:String // (g,f)∈l }
 | []=>none
 | p::r=>if h:p.1=g then some ⟨p.2,by rw [← h]; exact List.mem_cons_self⟩ else (mOf g r).map fun x=>⟨x.1,List.mem_cons_of_mem _ x.2⟩
noncomputable def lB (f:Expr→E):List Expr→Es
 | []=>.nil
 | e::r=>.cons (f e) (lB f r)
noncomputable def wz (f:Expr→E) (o:Option Expr):E:=o.elim .omit f
noncomputable def tH (c:Const):E:=match c with
 | .none=>.none
 | .bool b=>.bool b
 | .int i=>.int i
 | .str x=>bif decide (x.cps.toList.length≤1000) && x.cps.toList.all (· < 128) then .str x.cps.toList else .stuck
 | _=>.stuck
noncomputable def zg (N:Nm) (sc:Scope) (y:Str):E:=(nm N.all y).elim .stuck fun x=>bif ej sc x.1 && (!((x.1:Str) == ("__debug__" :Str)) && !((x.1:Str) == ("__classdict__" :Str)) && !((x.1:Str) == (".0" :Str))) then .var x.1 else bif bD sc x.1 then .glo x.1 else .stuck
noncomputable def cUn (op:UnaryOp) (a:E):E:=match op with
 | .USub=>.neg a
 | .Not=>.not a
 | _=>.stuck
noncomputable def Cq (c:Expr→E) (a:Expr) (ops:List CmpOp) (es:List Expr):E:=
 (one ops).elim ((two ops).elim .stuck fun o=>(two es).elim .stuck fun y=>bif !bu y.1.2 then .cmp2 o.1.1 o.1.2 (c a) (c y.1.1) (c y.1.2) else .stuck) fun o=>(one es).elim .stuck fun y=>bif !bu y.1 then .cmp o.1 (c a) (c y.1) else .stuck
noncomputable def Ck (c:Expr→E) (a i:Expr):E:=(DG i).elim (.idx (c a) (c i)) fun x=>bif x.1.2.2.1.isNone && !(wz c x.1.1).isOmit.xor x.1.1.isNone && !(wz c x.1.2.1).isOmit.xor x.1.2.1.isNone then .slc (c a) (wz c x.1.1) (wz c x.1.2.1) else .stuck
noncomputable def Cn (N:Nm) (sc:Scope) (c:Expr→E) (es:List Expr):E:=(two es).elim .stuck fun y=>(fQ y.1.2).elim .stuck fun u=>(nm N.all u.1.1).elim .stuck fun t=>
 bif bD sc "isinstance" && bD sc t.1 && aW y.1.1 then (bif tyNames.contains t.1 then .isi (c y.1.1) t.1 else bif N.exs.contains t.1 then .isiC (c y.1.1) t.1 else if t.1= "ValueError" then .isiV (c y.1.1) else if t.1= "Store" then (bif !N.meths.isEmpty then .isiS (c y.1.1) else .stuck) else .stuck) else .stuck
noncomputable def Co (N:Nm) (sc:Scope) (c:Expr→E) (y:Str) (es:List Expr):E:=(nm N.all y).elim .stuck fun g=>
 if g.1= "isinstance" then Cn N sc c es else
 if g.1= "Store" then (bif bD sc "Store" && !N.meths.isEmpty && es.all aW then .make (lB c es) else .stuck) else
 bif bD sc g.1 && !es.isEmpty && es.all aW then (bif N.fns.contains g.1 then .call g.1 (lB c es) else (DM g.1).elim .stuck fun f=>.blt f.1 (lB c es)) else .stuck
noncomputable def Cm (N:Nm) (c:Expr→E) (a:Expr) (y:Str) (ap:Pos) (es:List Expr) (p:Pos):E:=(nm N.all y).elim .stuck fun g=> 
 bif aW a && decide (es.length < 20) && (ap.endLine == p.line) && es.all aW then (mOf g.1 N.meths).elim ((Df g.1).elim .stuck fun m=>.mth m.1 (c a) (lB c es)) fun f=>.mcall f.1 g.1 (c a) (lB c es) else .stuck
noncomputable def zj (N:Nm) (c:Expr→E) (a:Expr) (y:Str):E:=(nm N.all y).elim .stuck fun x=>bif aW a && N.ats.contains x.1 then .attr (c a) x.1 else .stuck
noncomputable def zi (N:Nm) (sc:Scope) (c:Expr→E) (f:Expr) (es:List Expr) (kw:List Keyword) (p:Pos):E:=bif kw.isEmpty then (fQ f).elim ((yV f).elim .stuck fun x=>Cm N c x.1.1 x.1.2.1 x.1.2.2 es p) fun x=>Co N sc c x.1.1 es else .stuck
noncomputable def zh (N:Nm) (sc:Scope) (c c':Expr→E) (elt:Expr) (gs:List Comprehension) (cs:Scope):E:=(one gs).elim .stuck fun g=>(fQ g.1.target).elim .stuck fun y=>(nm N.all y.1.1).elim .stuck fun x=>
 bif cD cs sc x.1 && !bu g.1.iter && (g.1.is_async == 0) then (one g.1.ifs).elim (bif g.1.ifs.isEmpty then .comp (c' elt) x.1 (c g.1.iter) else .stuck) fun pc=>.compIf (c' elt) x.1 (c g.1.iter) (c' pc.1) else .stuck
noncomputable def DJ (e:Expr):Option { x:Str×Expr // ∃ p u q,e=.Tuple [.Name x.1 p,x.2] u q }:=(DF e).bind fun t=>(two t.1.1).bind fun y=>(fQ y.1.1).map fun a=>⟨(a.1.1,y.1.2),a.1.2,t.1.2.1,t.1.2.2,by rw [← a.2,← y.2]; exact t.2⟩
noncomputable def DH (e:Expr):Option { x:Str×Str // ∃ p q r,e=.Subscript (.Name x.1 p) (.Name x.2 q) r }:=(Ch e).bind fun t=>(fQ t.1.1).bind fun a=>(fQ t.1.2.1).map fun b=>⟨(a.1.1,b.1.1),a.1.2,b.1.2,t.1.2.2,by rw [← a.2,← b.2]; exact t.2⟩
noncomputable def tG (N:Nm) (sc cs':Scope) (x:String) (elt it:Expr) (e:E):E:=
 (DJ elt).elim e fun t=>(DH t.1.2).elim e fun b=>(fQ it).elim e fun q=>(nm N.all q.1.1).elim e fun d=>
 bif (t.1.1 == (x:Str)) && (b.1.2 == (x:Str)) && (b.1.1 == (d.1:Str)) && ej sc d.1 && ej cs' x && ej cs' d.1 && rM x && rM d.1 then .dpairs d.1 x else e
noncomputable def tI (N:Nm) (sc:Scope) (c c':Expr→E) (elt:Expr) (gs:List Comprehension) (cs:Scope):E:=(one gs).elim .stuck fun g=>(fQ g.1.target).elim .stuck fun y=>(nm N.all y.1.1).elim .stuck fun x=>
 bif cD cs sc x.1 && !bu g.1.iter && (g.1.is_async == 0) then (one g.1.ifs).elim (bif g.1.ifs.isEmpty then tG N sc (cc cs sc) x.1 elt g.1.iter (.compX (c' elt) x.1 (c g.1.iter)) else .stuck) fun pc=>.compIf (c' elt) x.1 (c g.1.iter) (c' pc.1) else .stuck
noncomputable def cE (N:Nm):Nat→Scope→Expr→E
 | 0=>fun _ _=>.stuck
 | n+1=>fun sc pe=>match pe with
  | .Constant c _ _=>tH c
  | .Name x _=>zg N sc x
  | .Tuple es _ _=>bif decide (es.length≤1000) && es.all aW then .tup (lB (cE N n sc) es) else .stuck
  | .List es _=>bif decide (es.length≤1000) && es.all aW then .list (lB (cE N n sc) es) else .stuck
  | .BinOp a op b _=>.bin op (cE N n sc a) (cE N n sc b)
  | .UnaryOp op a _=>cUn op (cE N n sc a)
  | .BoolOp op es _=>bif !es.isEmpty then (match op with | .And=>.and (lB (cE N n sc) es) | .Or=>.or (lB (cE N n sc) es)) else .stuck
  | .Compare a ops es _=>Cq (cE N n sc) a ops es
  | .Subscript a i _=>Ck (cE N n sc) a i
  | .Call f es kw p=>zi N sc (cE N n sc) f es kw p
  | .Attribute a y _=>zj N (cE N n sc) a y
  | .Dict ks vs _=>bif ks.isEmpty && vs.isEmpty then .dict else .stuck
  | .ListComp e gs cs _=>tI N sc (cE N n sc) (cE N n (cc cs sc)) e gs cs
  | _=>.stuck
section
variable {C:Cx} {k:Nat} {sc:Scope} {pe:Expr}
noncomputable def Snd (C:Cx) (k:Nat) (sc:Scope) (e:E) (pe:Expr):Prop:=SE C k sc e pe∧ST C k sc e pe
theorem ah:Snd C k sc .stuck pe:=⟨se,fun _ _ _ _ _ _ _ _ _ _ _ _ w=>False.elim w⟩
theorem aM {α:Type} {o:Option α} {g:α→E} {d:E} (h0:Snd C k sc d pe) (h: ∀ x,o=some x→Snd C k sc (g x) pe):Snd C k sc (o.elim d g) pe:=by
 cases o with
 | none=>exact h0
 | some x=>exact h x rfl
theorem bk {b:Bool} {e d:E} (h0:Snd C k sc d pe) (h:b=true→Snd C k sc e pe):Snd C k sc (bif b then e else d) pe:=by
 cases b with
 | false=>exact h0
 | true=>exact h rfl
theorem jz {P:Prop} [Decidable P] {e d:E} (h0:Snd C k sc d pe) (h:P→Snd C k sc e pe):Snd C k sc (if P then e else d) pe:=by
 by_cases q:P
 ·rw [if_pos q]; exact h q
 ·rw [if_neg q]; exact h0
theorem aZ {e:E} (he:SE C k sc e pe) (hp: ∀ env (whole:Sem Value),isTrue pe env whole=(do let v ← whole; standAt pe.pos; holding [v] (truthy v))):Snd C k sc e pe:=⟨he,rT he hp⟩
theorem bz {a b:Bool} (h:(a && b)=true):a=true∧b=true:=Bool.and_eq_true_iff.mp h
theorem ot {a:Bool} (h:(!a)=true):a=false:=by cases a<;>first | rfl | cases h
theorem cH {α:Type} {l:List α} (h:(!l.isEmpty)=true):l≠[]:=fun e=>by rw [e] at h; cases h
theorem kt {f:Expr→E} {P:E→Expr→Prop} (h: ∀ pe,P (f pe) pe): ∀ pes:List Expr,ld P (lB f pes) pes
 | []=>.nil
 | pe::r=>.cons (h pe) (kt h r)
theorem tL {f:Expr→E} {P:E→Expr→Prop} (h: ∀ pe,P (f pe) pe): ∀ pes:List Expr,pes.all aW=true→ld (fun e pe=>P e pe∧aW pe=true) (lB f pes) pes
 | [],_=>.nil
 | pe::r,q=>.cons ⟨h pe,(bz q).1⟩ (tL h r (bz q).2)
theorem dA {f:Expr→E} (h: ∀ pe,Snd C k sc (f pe) pe) {pes:List Expr} (q:pes.all aW=true):SEs C k sc (lB f pes) pes:=xy (tL (fun pe=>(h pe).1) pes q)
theorem pM {c:Const} {u:Nat} {p:Pos}:Snd C k sc (tH c) (.Constant c u p):=by
 cases c with
 | none=>exact aZ uF fun _ _=>rfl
 | bool b=>exact aZ uP fun _ _=>rfl
 | int i=>exact aZ xH fun _ _=>rfl
 | str x=>exact bk ah fun h=>aZ (xB h) fun _ _=>rfl
 | _=>exact ah
theorem rX {l:List String} {y:Str} {p:Pos}:Snd C k sc (zg (C.nm l) sc y) (.Name y p):=by
 refine aM ah fun x _=>?_
 obtain ⟨x,rfl⟩:=x
 exact bk (bk ah fun h=>aZ (xJ h) fun _ _=>rfl) fun h=>aZ (xz (bz h).1 (bz h).2) fun _ _=>rfl
theorem uC {c:Expr→E} (ih: ∀ pe,Snd C k sc (c pe) pe) {a:Expr} {ops:List CmpOp} {es:List Expr} {p:Pos}:Snd C k sc (Cq c a ops es) (.Compare a ops es p):=by
 refine aM (aM ah fun o _=>aM ah fun y _=>bk ah fun h=>?_) fun o _=>aM ah fun y _=>bk ah fun h=>?_
 ·obtain ⟨⟨o1,o2⟩,rfl⟩:=o
  obtain ⟨⟨b,d⟩,rfl⟩:=y
  exact ⟨uN (ot h) (ih a).1 (ih b).1 (ih d).1,uo (ot h) (ih a).1 (ih b).1 (ih d).1⟩
 ·obtain ⟨o,rfl⟩:=o
  obtain ⟨y,rfl⟩:=y
  exact ⟨xK (ot h) (ih a).1 (ih y).1,xl (ot h) (ih a).1 (ih y).1⟩
theorem ti {c:Expr→E} (ih: ∀ pe,Snd C k sc (c pe) pe) {o:Option Expr} (h:(!(wz c o).isOmit.xor o.isNone)=true):BD C k sc (wz c o) o:=by
 cases o with
 | none=>exact .inl ⟨rfl,rfl⟩
 | some pe=>
  refine .inr ⟨?_,pe,rfl,(ih pe).1⟩
  cases q:(wz c (some pe)).isOmit with
  | false=>rfl
  | true=>rw [q] at h; cases h
theorem uy {c:Expr→E} (ih: ∀ pe,Snd C k sc (c pe) pe) {a i:Expr} {p:Pos}:Snd C k sc (Ck c a i) (.Subscript a i p):=by
 refine aM (aZ (xI (ih a).1 (ih i).1) fun _ _=>rfl) fun x _=>bk ah fun h=>?_
 obtain ⟨⟨lo,hi,st,q⟩,rfl⟩:=x
 obtain ⟨h,h3⟩:=bz h
 obtain ⟨h1,h2⟩:=bz h
 have h1:st=none:=Option.isNone_iff_eq_none.mp h1
 subst h1
 exact aZ (xC (ih a).1 (ti ih h2) (ti ih h3)) fun _ _=>rfl
theorem uA {l:List String} {c:Expr→E} (ih: ∀ pe,Snd C k sc (c pe) pe) {es:List Expr} {p q:Pos}:Snd C k sc (Cn (C.nm l) sc c es) (.Call (.Name ("isinstance" :String) p) es [] q):=by
 refine aM ah fun y _=>?_
 obtain ⟨⟨a,t⟩,rfl⟩:=y
 refine aM ah fun u _=>?_
 obtain ⟨⟨u,p'⟩,hu⟩:=u
 have hu:t=.Name u p':=hu
 subst hu
 refine aM ah fun x _=>?_
 obtain ⟨x,hx⟩:=x
 have hx:(x:Str)=u:=hx
 subst hx
 refine bk ah fun h=>?_
 obtain ⟨h,h3⟩:=bz h
 obtain ⟨h1,h2⟩:=bz h
 refine bk (bk (jz (jz ah fun e=>bk ah fun hm=>?_) fun e=>?_) fun e=>?_) fun e=>?_
 ·have e:x= "Store" :=e
  subst e; exact aZ (uJ (cH hm) h1 h2 h3 (ih a).1) fun _ _=>rfl
 ·have e:x= "ValueError" :=e
  subst e; exact aZ (uI h1 h2 h3 (ih a).1) fun _ _=>rfl
 ·exact aZ (uK h1 (List.contains_iff_mem.mp e) h2 h3 (ih a).1) fun _ _=>rfl
 ·exact aZ (xG h1 (List.contains_iff_mem.mp e) h2 h3 (ih a).1) fun _ _=>rfl
theorem uB {l:List String} {c:Expr→E} (ih: ∀ pe,Snd C k sc (c pe) pe) {y:Str} {es:List Expr} {p q:Pos}:Snd C k sc (Co (C.nm l) sc c y es) (.Call (.Name y p) es [] q):=by
 refine aM ah fun x _=>?_
 obtain ⟨x,rfl⟩:=x
 refine jz (jz (bk ah fun h=>?_) fun e=>bk ah fun h=>?_) fun e=>?_
 ·obtain ⟨h,h3⟩:=bz h
  obtain ⟨h1,h2⟩:=bz h
  refine bk (aM ah fun f _=>?_) fun e=>aZ (uO (List.contains_iff_mem.mp e) h1 (cH h2) (dA ih h3)) fun _ _=>rfl
  obtain ⟨f,hf⟩:=f
  have hf:f.name=x:=hf
  subst hf
  exact aZ (xL h1 (cH h2) (dA ih h3)) fun _ _=>rfl
 ·have e:x= "Store" :=e
  subst e
  obtain ⟨h,h3⟩:=bz h
  obtain ⟨h1,h2⟩:=bz h
  exact aZ (uG (cH h2) h1 (dA ih h3)) fun _ _=>rfl
 ·have e:x= "isinstance" :=e
  subst e; exact uA ih
theorem uz {l:List String} {c:Expr→E} (ih: ∀ pe,Snd C k sc (c pe) pe) {a:Expr} {y:Str} {ap:Pos} {es:List Expr} {p:Pos}:Snd C k sc (Cm (C.nm l) c a y ap es p) (.Call (.Attribute a y ap) es [] p):=by
 refine aM ah fun x _=>?_
 obtain ⟨x,rfl⟩:=x
 refine bk ah fun h=>?_
 obtain ⟨h,h5⟩:=bz h
 obtain ⟨h,h4⟩:=bz h
 obtain ⟨h1,h3⟩:=bz h
 refine aM (aM ah fun m _=>?_) fun f _=>aZ (sf f.2 h1 (of_decide_eq_true h3) (beq_iff_eq.mp h4) (ih a).1 (dA ih h5)) fun _ _=>rfl
 obtain ⟨m,hm⟩:=m
 have hm:m.name=x:=hm
 subst hm
 exact aZ (xF h1 (of_decide_eq_true h3) (beq_iff_eq.mp h4) (ih a).1 (dA ih h5)) fun _ _=>rfl
theorem sd {l:List String} {c:Expr→E} (ih: ∀ pe,Snd C k sc (c pe) pe) {a:Expr} {y:Str} {p:Pos}:Snd C k sc (zj (C.nm l) c a y) (.Attribute a y p):=by
 refine aM ah fun x _=>?_
 obtain ⟨x,rfl⟩:=x
 exact bk ah fun h=>aZ (uQ (bz h).1 (List.contains_iff_mem.mp (bz h).2) (ih a).1) fun _ _=>rfl
theorem rZ {l:List String} {c:Expr→E} (ih: ∀ pe,Snd C k sc (c pe) pe) {f:Expr} {es:List Expr} {kw:List Keyword} {p:Pos}:Snd C k sc (zi (C.nm l) sc c f es kw p) (.Call f es kw p):=by
 refine bk ah fun h=>?_
 have h:kw=[]:=List.isEmpty_iff.mp h
 subst h
 refine aM (aM ah fun x _=>?_) fun x _=>?_
 ·obtain ⟨⟨a,m,ap⟩,rfl⟩:=x
  exact uz ih
 ·obtain ⟨⟨y,q⟩,rfl⟩:=x
  exact uB ih
theorem xw {cs:Scope} {x d:String} {elt it:Expr} {p0 p1 p2 p3 p4 p5 p6 p:Pos} {u:Nat} (hco:cD cs sc x=true) (e1:elt=.Tuple [.Name (x:Str) p1,.Subscript (.Name (d:Str) p2) (.Name (x:Str) p3) p4] u p5) (e3:it=.Name (d:Str) p6)
  (h4:ej sc d=true) (h5:ej (cc cs sc) x=true) (h6:ej (cc cs sc) d=true) (h7:rM x=true) (h8:rM d=true):Snd C k sc (.dpairs d x) (.ListComp elt [⟨.Name (x:Str) p0,it,[],0⟩] cs p):=by
 rw [e1,e3]; exact aZ (pQ hco h4 h5 h6 h7 h8) fun _ _=>rfl
theorem pL {l:List String} {cs:Scope} {x:String} {elt it:Expr} {e:E} {p0 p:Pos} (hco:cD cs sc x=true) (he:Snd C k sc e (.ListComp elt [⟨.Name (x:Str) p0,it,[],0⟩] cs p)):Snd C k sc (tG (C.nm l) sc (cc cs sc) x elt it e) (.ListComp elt [⟨.Name (x:Str) p0,it,[],0⟩] cs p):=by
 refine aM he fun t _=>aM he fun b _=>aM he fun q _=>aM he fun d _=>bk he fun h=>?_
 obtain ⟨h,h8⟩:=bz h
 obtain ⟨h,h7⟩:=bz h
 obtain ⟨h,h6⟩:=bz h
 obtain ⟨h,h5⟩:=bz h
 obtain ⟨h,h4⟩:=bz h
 obtain ⟨h,h3⟩:=bz h
 obtain ⟨h1,h2⟩:=bz h
 obtain ⟨p1,u,p5,e1⟩:=t.2
 obtain ⟨p2,p3,p4,e2⟩:=b.2
 have e3:=q.2
 rw [e2,beq_iff_eq.mp h1,beq_iff_eq.mp h2,beq_iff_eq.mp h3] at e1
 rw [← d.2] at e3
 exact xw hco e1 e3 h4 h5 h6 h7 h8
theorem rY {l:List String} {c c':Expr→E} {cs:Scope} (ih: ∀ pe,Snd C k sc (c pe) pe) (ih': ∀ pe,Snd C k (cc cs sc) (c' pe) pe) {elt:Expr} {gs:List Comprehension} {p:Pos}:Snd C k sc (tI (C.nm l) sc c c' elt gs cs) (.ListComp elt gs cs p):=by
 refine aM ah fun g _=>?_
 obtain ⟨⟨tg,it,ifs,asy⟩,rfl⟩:=g
 refine aM ah fun y _=>?_
 obtain ⟨⟨y,q⟩,hy⟩:=y
 have hy:tg=.Name y q:=hy
 subst hy
 refine aM ah fun x _=>?_
 obtain ⟨x,hx⟩:=x
 have hx:(x:Str)=y:=hx
 subst hx
 refine bk ah fun h=>?_
 obtain ⟨h,h3⟩:=bz h
 obtain ⟨h1,h2⟩:=bz h
 have h3:asy=0:=beq_iff_eq.mp h3
 subst h3
 refine aM (bk ah fun e=>?_) fun pc _=>?_
 ·have e:ifs=[]:=List.isEmpty_iff.mp e
  subst e
  exact pL h1 (aZ (sh h1 (ot h2) (ih' elt).1 (ih it).1) fun _ _=>rfl)
 ·obtain ⟨pc,hp⟩:=pc
  have hp:ifs=[pc]:=hp
  subst hp
  exact aZ (kq h1 (ot h2) (ih' elt).1 (ih it).1 (ih' pc).2) fun _ _=>rfl
theorem tc {l:List String}: ∀ (n:Nat) (sc:Scope) (pe:Expr),Snd C k sc (cE (C.nm l) n sc pe) pe
 | 0,_,_=>ah
 | n+1,sc,pe=>by
  have ih:=fun sc=>tc (l:=l) n sc
  cases pe with
  | Constant c u p=>exact pM
  | Name x p=>exact rX
  | Tuple es u p=>exact bk ah fun h=>aZ (xA (of_decide_eq_true (bz h).1) (dA (ih sc) (bz h).2)) fun _ _=>rfl
  | List es p=>exact bk ah fun h=>aZ (uH (of_decide_eq_true (bz h).1) (dA (ih sc) (bz h).2)) fun _ _=>rfl
  | BinOp a op b p=>exact aZ (xM (ih sc a).1 (ih sc b).1) fun _ _=>rfl
  | UnaryOp op a p=>
   cases op with
   | USub=>exact aZ (xE (ih sc a).1) fun _ _=>rfl
   | Not=>exact ⟨xD (ih sc a).1,xk (ih sc a).2⟩
   | _=>exact ah
  | BoolOp op es p=>
   refine bk ah fun h=>?_
   cases op with
   | And=>exact ⟨xO (kt (fun pe=>(ih sc pe).1) es) (cH h),xm (kt (fun pe=>(ih sc pe).2) es)⟩
   | Or=>exact ⟨AQ (kt (fun pe=>(ih sc pe).1) es) (cH h),AO (kt (fun pe=>(ih sc pe).2) es)⟩
  | Compare a ops es p=>exact uC (ih sc)
  | Subscript a i p=>exact uy (ih sc)
  | Call f es kw p=>exact rZ (ih sc)
  | Attribute a y p=>exact sd (ih sc)
  | Dict ks vs p=>
   refine bk ah fun h=>?_
   have h1:ks=[]:=List.isEmpty_iff.mp (bz h).1
   have h2:vs=[]:=List.isEmpty_iff.mp (bz h).2
   subst h1 h2
   exact aZ uL fun _ _=>rfl
  | ListComp e gs cs p=>exact rY (ih sc) (ih (cc cs sc))
  | _=>exact ah
end
end
noncomputable section
open PySem PyProof.Rows
noncomputable def Own (env:Env) (b:Addr):Prop:=b=env.locals∨∃ n,env.kindOf n=some .cell∧env.cells.lookup n=some b
structure cg (W:Addr→Prop) (ρ:List Addr) (H:List HO) (s:Shared) (ρ':List Addr) (H':List HO) (s':Shared):Prop where
 keep: ∀ a o,s.heap.get? a=some o→¬ Lv ρ H a→¬ W a→∃ o',s'.heap.get? a=some o'∧dU o o'
 live: ∀ a,¬ W a→Lv ρ' H' a→Lv ρ H a∨s.heap.get? a=none
 pre: ∀ (i:Nat) a,ρ[i]?= some a→ρ'[i]?= some a
section
variable {W:Addr→Prop} {ρ ρ' ρ'':List Addr} {H H' H'':List HO} {s s' s'':Shared}
theorem Stp.w (S:Stp ρ H s ρ' H' s'):cg W ρ H s ρ' H' s':=⟨fun a o e n _=>S.kep.keep a o e n,fun a _ q=>S.kep.live a q,S.kep.pre⟩
theorem cg.refl:cg W ρ H s ρ H s:=(Stp.refl ρ H s).w
theorem cg.notLive (x:cg W ρ H s ρ' H' s') {a:Addr} {o:Obj} (e:s.heap.get? a=some o) (n: ¬ Lv ρ H a) (nw: ¬ W a): ¬ Lv ρ' H' a:=fun q=>by
 rcases x.live a nw q with z | z
 ·exact n z
 ·rw [e] at z; cases z
theorem cg.same (x:cg W ρ H s ρ' H' s') {a:Addr} {o:Obj} (e:s.heap.get? a=some o) (n: ¬ Lv ρ H a) (nw: ¬ W a) (hd: ∀ es m,o.data≠.dict es m):s'.heap.get? a=some o:=by
 obtain ⟨o',e',al⟩:=x.keep a o e n nw
 rw [e',al.same hd]
theorem cg.trans (x:cg W ρ H s ρ' H' s') (y:cg W ρ' H' s' ρ'' H'' s''):cg W ρ H s ρ'' H'' s'':=by
 refine ⟨fun a o e n nw=>?_,fun a nw q=>?_,fun i a e=>y.pre _ _ (x.pre _ _ e)⟩
 ·obtain ⟨o',e',q⟩:=x.keep a o e n nw
  obtain ⟨o'',e'',q'⟩:=y.keep a o' e' (x.notLive e n nw) nw
  exact ⟨o'',e'',q.trans q'⟩
 ·rcases y.live a nw q with z | z
  ·exact x.live a nw z
  ·by_cases hL:Lv ρ H a
   ·exact .inl hL
   ·right
    cases hg:s.heap.get? a with
    | none=>rfl
    | some o=>
     obtain ⟨o',e',_⟩:=x.keep a o hg hL nw
     rw [z] at e'; cases e'
theorem cg.touch {a:Addr} (x:cg W ρ H s ρ' H' s') (hw:W a∨s.heap.get? a=none) (k: ∀ b o,b≠a→s'.heap.get? b=some o→s''.heap.get? b=some o):cg W ρ H s ρ' H' s'':=
 ⟨(fun b o e n nw=>by
  obtain ⟨o',e',q⟩:=x.keep b o e n nw
  refine ⟨o',k b o' (fun q=>?_) e',q⟩
  subst q
  rcases hw with z | z
  ·exact nw z
  ·rw [e] at z; cases z),x.live,x.pre⟩
end
section
variable {C:Cx} {k:Nat} {γ γ':Gh} {env:Env} {A:Around} {ρ₁:List Addr} {st₁:St} {s₁:Shared} {ρ ρ':List Addr} {st st':St} {s s':Shared} {E:Value→Shared→Prop}
theorem Fra.own_ghost (F:Fra γ env st ρ s) {b:Addr} (h:Own env b):γ.h b:=by
 rcases h with rfl | ⟨n,hk,hl⟩
 ·exact F.own
 ·obtain ⟨c,ov,h1,h2,_⟩:=F.cell n (.inl hk)
  rw [hl] at h1; cases h1; exact h2.2
theorem Fra.own_nb (F:Fra γ env st ρ s) {b:Addr} (h:Own env b): ¬ γ.b b:=by
 rcases h with rfl | ⟨n,_,hl⟩
 ·exact F.nb
 ·exact (F.nbc n b hl).2
theorem Fra.cell_ne (F:Fra γ env st ρ s) {n:Str} {c:Addr} (hk:env.kindOf n=some .cell∨env.kindOf n=some .free) (hl:env.cells.lookup n=some c):c≠env.locals:=fun e=>by
 obtain ⟨c',ov,h1,h2,⟨o,ho,hd⟩,_⟩:=F.cell n hk
 rw [hl] at h1; cases h1
 obtain ⟨m,⟨o',es,ep,ho',hd',_⟩,_⟩:=F.ns
 rw [e,ho'] at ho; cases ho
 rw [hd'] at hd; cases hd
theorem Fra.cls_false (F:Fra γ env st ρ s):(env.scope.kind == .class || (env.scope.kind == .module && env.locals != env.globals))=false:=by rw [F.kind]; rfl
theorem ec {x:String} {v:V} {mv:Value} (hk:kd env.scope x=some .local∨kd env.scope x=some .cell) (I:Inv C γ ρ st.H s) (F:Fra γ env st ρ s) (r:Rel s.heap ρ (Nl γ ρ st.H) v mv):
  wpAny C.M A (storeName env x mv) (fun _ s'=>Inv C γ ρ st.H s'∧Fra γ env (st.set x v) ρ s'∧cg (Own env) ρ st.H s ρ st.H s') E s:=by
 obtain ⟨m,hm,hv⟩:=F.ns
 rcases hk with hk | hk
 ·refine wpAny_storeName_local hk hm (fun h' hn' hs'=>?_) F.cls_false
  have k1: ∀ b o,b≠env.locals→s.heap.get? b=some o→h'.get? b=some o:=fun b o hb e=>hs'.extBut b o hb e
  have K:=bB (s:=s) (s':={ s with heap:=h',toks:=s.toks+1 }) (ρ:=ρ) (H:=st.H) F.own k1
  refine ⟨I.touch F.own F.nb (fun _=>dS hn') k1 (bT hn') rfl rfl,⟨F.kind,F.glob,F.blt,F.nl,F.own,⟨_,hn',fun y w ky kz q=>?_⟩,fun n kn=>?_,F.apart,F.nb,F.nbc⟩,cg.refl.touch (.inl (.inl rfl)) k1⟩
  ·by_cases e:y=x
   ·subst e
    simp only [St.set,if_true,Option.some.injEq] at q
    subst q
    exact ⟨mv,by simp,r.kept K⟩
   ·have e':(y:Str)≠(x:Str):=fun z=>e (eu z)
    simp only [St.set,if_neg e] at q
    obtain ⟨mw,e1,e2⟩:=hv y w ky kz q
    exact ⟨mw,by simp [e',e1],e2.kept K⟩
  ·obtain ⟨c,ov,h1,h2,⟨o,ho,hd⟩,h4⟩:=F.cell n kn
   refine ⟨c,ov,h1,h2,⟨o,k1 _ _ (F.cell_ne kn h1) ho,hd⟩,fun y hy w q=>?_⟩
   have e:y≠x:=fun e=>by subst e; rw [← hy] at kn; rcases kn with kn | kn<;>· rw [show env.kindOf (y:Str)=some .local from hk] at kn; cases kn
   simp only [St.set,if_neg e] at q
   obtain ⟨mw,e1,e2⟩:=h4 y hy w q
   exact ⟨mw,e1,e2.kept K⟩
 ·obtain ⟨c,ov,h1,h2,h3,h4⟩:=F.cell x (.inl hk)
  refine wpAny_storeName_cell F.kind hk h1 h3 (fun h' hn' hs'=>?_)
  have k1: ∀ b o,b≠c→s.heap.get? b=some o→h'.get? b=some o:=fun b o hb e=>hs'.extBut b o hb e
  have K:=bB (s:=s) (s':={ s with heap:=h' }) (ρ:=ρ) (H:=st.H) h2.2 k1
  have hne:=F.cell_ne (.inl hk) h1
  refine ⟨I.touch h2.2 (F.nbc _ _ h1).2 (fun q=>by obtain ⟨o,es,n,e,d⟩:=I.frm c q; obtain ⟨o',e',d'⟩:=h3; rw [e] at e'; cases e'; rw [d] at d'; cases d') k1 (let ⟨o,e,_⟩:=hn'; ⟨o,e⟩) rfl rfl,⟨F.kind,F.glob,F.blt,F.nl,F.own,⟨m,aG hm fun o ho=>⟨o,k1 _ _ (Ne.symm hne) ho,.refl o⟩,fun y w ky kz q=>?_⟩,fun n kn=>?_,F.apart,F.nb,F.nbc⟩,cg.refl.touch (.inl (.inr ⟨_,hk,h1⟩)) k1⟩
  ·have e:y≠x:=fun e=>by subst e; rw [show env.kindOf (y:Str)=some .cell from hk] at ky; cases ky
   simp only [St.set,if_neg e] at q
   obtain ⟨mw,e1,e2⟩:=hv y w ky kz q
   exact ⟨mw,e1,e2.kept K⟩
  ·by_cases e:n=(x:Str)
   ·subst e
    refine ⟨c,_,h1,h2,hn',fun y hy w q=>?_⟩
    have:=eu hy; subst this
    simp only [St.set,if_true,Option.some.injEq] at q
    subst q
    exact ⟨mv,rfl,r.kept K⟩
   ·obtain ⟨c',ov',g1,g2,⟨o,ho,hd⟩,g4⟩:=F.cell n kn
    have hcc:c'≠c:=fun z=>e (F.apart n x c (z▸g1) h1)
    refine ⟨c',ov',g1,g2,⟨o,k1 _ _ hcc ho,hd⟩,fun y hy w q=>?_⟩
    have ey:y≠x:=fun z=>by subst z; exact e hy.symm
    simp only [St.set,if_neg ey] at q
    obtain ⟨mw,e1,e2⟩:=g4 y hy w q
    exact ⟨mw,e1,e2.kept K⟩
end
noncomputable def dm (e:Expr):Bool:=match e with
 | .ListComp ..=>true
 | .SetComp ..=>true
 | .DictComp ..=>true
 | _=>false
noncomputable def jK (sc:Scope) (x:String):Bool:=kd sc x == some .local || kd sc x == some .cell
inductive bJ (h:Heap) (ρ:List Addr) (N:Addr→Prop):Flow→PySem.Flow→Prop
 | next:bJ h ρ N .next .next
 | brk:bJ h ρ N .brk .brk
 | cont:bJ h ρ N .cont .cont
 | ret {v:V} {mv:Value}:Rel h ρ N v mv→bJ h ρ N (.ret v) (.ret mv)
noncomputable def dQ (C:Cx) (γ:Gh) (env:Env) (ρ:List Addr) (st:St) (s:Shared) (Q:Flow→St→Prop) (fl:PySem.Flow) (s':Shared):Prop:=
 ∃ f st' ρ',Q f st'∧bJ s'.heap ρ' (Nl γ ρ' st'.H) f fl∧Inv C γ ρ' st'.H s'∧Fra γ env st' ρ' s'∧cg (Own env) ρ st.H s ρ' st'.H s'
noncomputable def bN (C:Cx) (γ:Gh) (env:Env) (ρ:List Addr) (st:St) (s:Shared) (X:String→St→Prop) (ev:Value) (s':Shared):Prop:=
 ∃ c st' ρ',X c st'∧wD C env s.heap s' ev c∧Inv C γ ρ' st'.H s'∧Fra γ env st' ρ' s'∧cg (Own env) ρ st.H s ρ' st'.H s'
noncomputable def Top (A:Around) (env:Env):Prop:=∃ l,A.frames=some (env::l)
noncomputable def SS (C:Cx) (k:Nat) (sc:Scope) (x:S) (ps:Stmt):Prop:=∀ (env:Env) (A:Around) (s:Shared) (γ:Gh) (ρ:List Addr) (st:St) (Q:Flow→St→Prop) (X:String→St→Prop),env.scope=sc→bK (2*k+1) A γ→Top A env→Inv C γ ρ st.H s→Fra γ env st ρ s→
 wS (Calls C k) C.glo x st Q X→wpAny C.M A (exec ps env) (dQ C γ env ρ st s Q) (bN C γ env ρ st s X) s
noncomputable def SSs (C:Cx) (k:Nat) (sc:Scope) (x:Ss) (pss:List Stmt):Prop:=∀ (env:Env) (A:Around) (s:Shared) (γ:Gh) (ρ:List Addr) (st:St) (Q:Flow→St→Prop) (X:String→St→Prop),env.scope=sc→bK (2*k+1) A γ→Top A env→Inv C γ ρ st.H s→Fra γ env st ρ s→
 wSs (Calls C k) C.glo x st Q X→wpAny C.M A (execs pss env) (dQ C γ env ρ st s Q) (bN C γ env ρ st s X) s
section
variable {C:Cx} {k:Nat} {sc:Scope} {γ γ':Gh} {env:Env} {A:Around} {ρ₁:List Addr} {st₁:St} {s₁:Shared} {ρ ρ':List Addr} {st st':St} {s s':Shared} {Q:Flow→St→Prop} {X:String→St→Prop}
theorem dQ.step {fl:PySem.Flow} (S:cg (Own env) ρ st.H s ρ' st'.H s') {s'':Shared} (p:dQ C γ env ρ' st' s' Q fl s''):dQ C γ env ρ st s Q fl s'':=by
 obtain ⟨f,st'',ρ'',h1,h2,h3,h4,h5⟩:=p
 exact ⟨f,st'',ρ'',h1,h2,h3,h4,S.trans h5⟩
theorem cg.back (S:cg (Own env) ρ st.H s ρ' st'.H s') (I:Inv C γ ρ' st'.H s') (F:Fra γ env st' ρ' s') (a:Addr) (h:s'.heap.get? a=none):s.heap.get? a=none:=by
 cases e:s.heap.get? a with
 | none=>rfl
 | some o=>
  exfalso
  by_cases q:Lv ρ st.H a
  ·obtain ⟨i,_,q1,_⟩:=q
   obtain ⟨o',e'⟩:=I.there a (List.mem_of_getElem? (S.pre i a q1))
   rw [h] at e'; cases e'
  ·by_cases w:Own env a
   ·obtain ⟨o',e'⟩:=I.held a (F.own_ghost w)
    rw [h] at e'; cases e'
   ·obtain ⟨o',e',_⟩:=S.keep a o e q w
    rw [h] at e'; cases e'
theorem bN.step {ev:Value} (I:Inv C γ ρ' st'.H s') (F:Fra γ env st' ρ' s') (S:cg (Own env) ρ st.H s ρ' st'.H s') {s'':Shared} (p:bN C γ env ρ' st' s' X ev s''):bN C γ env ρ st s X ev s'':=by
 obtain ⟨f,st'',ρ'',h1,h2,h3,h4,h5⟩:=p
 exact ⟨f,st'',ρ'',h1,h2.back (S.back I F),h3,h4,S.trans h5⟩
theorem bj.frame {ev:Value} (F:Fra γ env st ρ s) (p:bj C γ ρ st s X ev s'):bN C γ env ρ st s X ev s':=by
 obtain ⟨c,st',ρ',h1,h2,h3,h4,h5⟩:=p
 exact ⟨c,st',ρ',h1,.inl (.inl h3),h4,F.step h5 h2,h5.w⟩
theorem SE.stm {e:E} {pe:Expr} {W:V→St→Prop} {K:Value→Shared→Prop} (ih:SE C k sc e pe) (hs:env.scope=sc) (hr:bK (2*k+1) A γ) (I:Inv C γ ρ st.H s) (F:Fra γ env st ρ s) (w:wE (Calls C k) C.glo e st W X)
  (h: ∀ mv s' v st' ρ',W v st'→Rel s'.heap ρ' (Nl γ ρ' st'.H) v mv→Inv C γ ρ' st'.H s'→Fra γ env st' ρ' s'→Stp ρ st.H s ρ' st'.H s'→K mv s'):wpAny C.M A (eval pe env) K (bN C γ env ρ st s X) s:=
 wpAny_mono (ih env A s γ ρ st W X hs hr I F w) (fun mv s' p=>by
  obtain ⟨v,st',ρ',h1,h2,h3,h4,h5⟩:=p
  exact h mv s' v st' ρ' h1 h3 h4 (F.step h5 h2) h5) fun _ _ p=>p.frame F
theorem ST.stm {e:E} {pe:Expr} {W:Bool→St→Prop} {K:Bool→Shared→Prop} (ih:ST C k sc e pe) (hs:env.scope=sc) (hr:bK (2*k+1) A γ) (I:Inv C γ ρ st.H s) (F:Fra γ env st ρ s) (w:wT (Calls C k) C.glo e st W X)
  (h: ∀ b s' st' ρ',W b st'→Inv C γ ρ' st'.H s'→Fra γ env st' ρ' s'→Stp ρ st.H s ρ' st'.H s'→K b s'):wpAny C.M A (isTrue pe env (eval pe env)) K (bN C γ env ρ st s X) s:=
 wpAny_mono (ih env A s γ ρ st W X hs hr I F w) (fun mv s' p=>by
  obtain ⟨st',ρ',h1,h2,h4,h5⟩:=p
  exact h mv s' st' ρ' h1 h4 (F.step h5 h2) h5) fun _ _ p=>p.frame F
theorem SSs.at {x:Ss} {pss:List Stmt} (ih:SSs C k sc x pss) (hs:env.scope=sc) (hr:bK (2*k+1) A γ) (ht:Top A env) (I:Inv C γ ρ' st'.H s') (F:Fra γ env st' ρ' s') (S:cg (Own env) ρ st.H s ρ' st'.H s') (w:wSs (Calls C k) C.glo x st' Q X):
  wpAny C.M A (execs pss env) (dQ C γ env ρ st s Q) (bN C γ env ρ st s X) s':=
 wpAny_mono (ih env A s' γ ρ' st' Q X hs hr ht I F w) (fun _ _ p=>p.step S) fun _ _ p=>p.step I F S
theorem SE.stmW {ρ₀:List Addr} {st₀:St} {s₀:Shared} {e:E} {pe:Expr} {W:V→St→Prop} {K:Value→Shared→Prop} (ih:SE C k sc e pe) (hs:env.scope=sc) (hr:bK (2*k+1) A γ) (S₀:cg (Own env) ρ₀ st₀.H s₀ ρ st.H s) (I:Inv C γ ρ st.H s) (F:Fra γ env st ρ s) (w:wE (Calls C k) C.glo e st W X)
  (h: ∀ mv s' v st' ρ',W v st'→Rel s'.heap ρ' (Nl γ ρ' st'.H) v mv→Inv C γ ρ' st'.H s'→Fra γ env st' ρ' s'→Stp ρ st.H s ρ' st'.H s'→K mv s'):wpAny C.M A (eval pe env) K (bN C γ env ρ₀ st₀ s₀ X) s:=
 wpAny_mono (ih.stm hs hr I F w h) (fun _ _ x=>x) fun _ _ p=>p.step I F S₀
theorem dh {pe:Expr} {t:Option Expr} {l:Nat} (h:dm pe=false):swapsWith pe t l env=pure false:=by
 unfold swapsWith
 cases pe<;>first | rfl | cases h
theorem av {ps:Stmt}:SS C k sc .stuck ps:=fun _ _ _ _ _ _ _ _ _ _ _ _ _ w=>False.elim w
theorem AP {e:E} {pe:Expr} {p:Pos} (hc:dm pe=false) (he:SE C k sc e pe):SS C k sc (.ex e) (.Expr pe p):=
 fun env A s γ ρ st Q X hs hr ht I F w=>
  wpAny_Expr_any (he.stm hs hr I F w fun mv s₁ v st₁ ρ₁ w₁ r₁ I₁ F₁ S₁=>⟨_,st₁,ρ₁,w₁,.next,I₁,F₁,S₁.w⟩) (by rw [interactive,F.kind]; rfl) (dh hc)
theorem xr {e:E} {pe:Expr} {p:Pos} (he:SE C k sc e pe):SS C k sc (.ret e) (.Return (some pe) p):=
 fun env A s γ ρ st Q X hs hr ht I F w=>wpAny_Return_some (he.stm hs hr I F w fun mv s₁ v st₁ ρ₁ w₁ r₁ I₁ F₁ S₁=>⟨_,st₁,ρ₁,w₁,.ret r₁,I₁,F₁,S₁.w⟩)
theorem ut {p:Pos}:SS C k sc .cont (.Continue p):=fun env A s γ ρ st Q X hs hr ht I F w=>wpAny_Continue ⟨_,st,ρ,w,.cont,I,F,.refl⟩
theorem ur {p:Pos}:SS C k sc .pass (.Pass p):=fun env A s γ ρ st Q X hs hr ht I F w=>wpAny_Pass ⟨_,st,ρ,w,.next,I,F,.refl⟩
theorem xt {c:E} {t f:Ss} {pc:Expr} {pt pf:List Stmt} {p:Pos} (hc:ST C k sc c pc) (hT:SSs C k sc t pt) (hf:SSs C k sc f pf):SS C k sc (.ite c t f) (.If pc pt pf p):=
 fun env A s γ ρ st Q X hs hr ht I F w=>wpAny_If (hc.stm hs hr I F w fun b s₁ st₁ ρ₁ w₁ I₁ F₁ S₁=>by
  rcases w₁ with ⟨rfl,w₁⟩ | ⟨rfl,w₁⟩
  ·exact hT.at hs hr ht I₁ F₁ S₁.w w₁
  ·exact hf.at hs hr ht I₁ F₁ S₁.w w₁)
theorem uq:SSs C k sc .nil []:=fun env A s γ ρ st Q X hs hr ht I F w=>wpAny_execs_nil ⟨_,st,ρ,w,.next,I,F,.refl⟩
theorem rU {x:S} {ss:Ss} {ps:Stmt} {pss:List Stmt} (hx:SS C k sc x ps) (hss:SSs C k sc ss pss):SSs C k sc (.cons x ss) (ps::pss):=by
 intro env A s γ ρ st Q X hs hr ht I F w
 refine wpAny_execs_cons (wpAny_mono (hx env A s γ ρ st _ X hs hr ht I F w) (fun fl s' p=>?_) fun _ _ p=>p)
 obtain ⟨f,st',ρ',h1,h2,h3,h4,h5⟩:=p
 rcases h1 with ⟨rfl,h1⟩ | ⟨ne,h1⟩
 ·cases h2; exact hss.at hs hr ht h3 h4 h5 h1
 ·cases h2 with
  | next=>exact absurd rfl ne
  | brk=>exact ⟨_,st',ρ',h1,.brk,h3,h4,h5⟩
  | cont=>exact ⟨_,st',ρ',h1,.cont,h3,h4,h5⟩
  | ret r=>exact ⟨_,st',ρ',h1,.ret r,h3,h4,h5⟩
end
end
noncomputable section
open PySem PyProof.Rows
section
variable {C:Cx} {k:Nat} {sc:Scope} {γ γ':Gh} {env:Env} {A:Around} {ρ₁:List Addr} {st₁:St} {s₁:Shared} {ρ ρ':List Addr} {st st':St} {s s':Shared} {Q:Flow→St→Prop} {X:String→St→Prop}
theorem Fra.re (F:Fra γ' env st ρ s) (F₁:Fra γ env st₁ ρ₁ s₁) (K:cG s.heap ρ (Nl γ' ρ st.H) s'.heap ρ' (Nl γ ρ' st'.H)) (e:st'.s=st.s)
  (kL: ∀ b o,γ.h b→s.heap.get? b=some o→∃ o',s'.heap.get? b=some o'∧dU o o') (lv: ∀ b,γ.h b→¬ Lv ρ' st'.H b):Fra γ env st' ρ' s':=by
 obtain ⟨m,hm,hv⟩:=F.ns
 refine ⟨F.kind,F.glob,F.blt,lv _ F₁.own,F₁.own,⟨m,aG hm fun o ho=>kL _ o F₁.own ho,fun x v k kz q=>?_⟩,fun x hk=>?_,F.apart,F₁.nb,F₁.nbc⟩
 ·obtain ⟨mv,e1,e2⟩:=hv x v k kz (e▸q)
  exact ⟨mv,e1,e2.kept K⟩
 ·obtain ⟨c,ov,h1,h2,⟨oc,hoc,hdc⟩,h4⟩:=F.cell x hk
  obtain ⟨c',ov',h1',h2',_⟩:=F₁.cell x hk
  rw [h1] at h1'; cases h1'
  obtain ⟨o',ho',al⟩:=kL c oc h2'.2 hoc
  refine ⟨c,ov,h1,⟨lv _ h2'.2,h2'.2⟩,⟨oc,by rw [ho',al.same fun es n q=>by rw [hdc] at q; cases q],hdc⟩,fun y hy v q=>?_⟩
  obtain ⟨mv,e1,e2⟩:=h4 y hy v (e▸q)
  exact ⟨mv,e1,e2.kept K⟩
theorem Fra.more (F:Fra γ env st ρ s) (I:Inv C γ ρ st.H s) (sub: ∀ b,γ.h b→γ'.h b) (hs: ∀ b,γ'.h b→γ.h b∨s.heap.get? b=none) (hb: ∀ b,γ'.b b→γ.b b):Fra γ' env st ρ s:=
 F.holds I (bL.refl s) sub hs hb
theorem sR {D Cl:Addr} {acc:List V} {Qv:V→St→Prop} (I₁:Inv C γ ρ₁ st₁.H s₁) (F₁:Fra γ env st₁ ρ₁ s₁) (dD:s₁.heap.get? D=none) (dC:s₁.heap.get? Cl=none) (nDC:D≠Cl) (gD: ¬ γ.h D)
  (J:jg C (G2 γ D Cl) env ρ₁ st₁ s₁ D Cl acc ρ st s) (hl:acc.length≤au) (w:jH acc st Qv):
  ∃ v st' ρ',Qv v st'∧Rel s.heap ρ' (Nl (dT γ Cl) ρ' st'.H) v (.ref D)∧Inv C (dT γ Cl) ρ' st'.H s∧Fra (dT γ Cl) env st' ρ' s∧Stp ρ₁ st₁.H s₁ ρ' st'.H s:=by
 obtain ⟨ms,hpl,hrl⟩:=J.acc
 have sub: ∀ b,(dT γ Cl).h b→(G2 γ D Cl).h b:=fun b q=>q.imp id .inr
 have nD: ¬ (dT γ Cl).h D:=fun q=>q.elim gD nDC
 have F₁':Fra (dT γ Cl) env st₁ ρ₁ s₁:=F₁.more I₁ (fun _=>.inl) (fun b q=>q.imp id fun e=>by rw [e]; exact dC) fun _ q=>q
 have nl: ¬ Nl (dT γ Cl) ρ st.H D:=fun q=>q.elim (J.inv.ghost_nl (.inr (.inl rfl))) nD
 rcases w with w | w
 ·have K:=cW (s:=s) (ρ:=ρ) (H:=st.H) sub
  exact ⟨_,st,ρ,w,.lst hpl nl hl (hrl.kept K),J.inv.drop sub (fun _ q=>q) (fun _ q=>q) (fun _=>Iff.rfl),J.fra.re F₁' K rfl (fun b o _ e=>⟨o,e,.refl o⟩) fun b q=>J.inv.ghost_nl (sub b q),J.stp⟩
 ·have I':Inv C (dT γ Cl) (ρ++[D]) (st.H++[.list acc]) s:=J.inv.adopt (.inr (.inl rfl)) sub (fun _ q=>q) (fun _ q=>q) (fun _=>Iff.rfl) nD (fun q=>gD (γ.bh _ q)) rfl fun kp=>⟨ms,hpl,hrl.kept kp,hl⟩
  have K:cG s.heap ρ (Nl (G2 γ D Cl) ρ st.H) s.heap (ρ++[D]) (Nl (dT γ Cl) (ρ++[D]) (st.H++[.list acc])):=
   ⟨fun _ x e _=>⟨x,e,.refl x⟩,fun b q=>by
    rcases q with q | q
    ·rcases fD J.inv.len q with q | q
     ·exact .inl (.inl q)
     ·exact .inl (.inr (.inr (.inl q)))
    ·exact .inl (.inr (sub b q)),fun i b e=>by rw [List.getElem?_append_left (List.getElem?_eq_some_iff.mp e).1]; exact e⟩
  refine ⟨_,{ st with H:=st.H++[.list acc]},ρ++[D],w,.loc (by rw [← J.inv.len]; simp),I',J.fra.re F₁' K rfl (fun b o _ e=>⟨o,e,.refl o⟩) fun b q=>I'.ghost_nl q,⟨⟨J.stp.kep.keep,fun b q=>?_,fun i b e=>?_⟩⟩⟩
  ·rcases fD J.inv.len q with q | q
   ·exact J.stp.kep.live b q
   ·exact .inr (q▸dD)
  ·have:=J.stp.kep.pre i b e
   rw [List.getElem?_append_left (List.getElem?_eq_some_iff.mp this).1]; exact this
theorem rC {it:E} {pelt pit:Expr} {x y:String} {px py pos spos:Pos} {ifs:List Expr} {cs:Scope} {f:V→St→(List V→St→Prop)→Prop}
  (hi:SE C k env.scope it pit) (hco:cD cs env.scope x=true) (hset:bu pit=false) (T:tN False C A γ cs env x ifs pelt f) (hr:bK (2*k+1) A γ) (I:Inv C γ ρ st.H s) (F:Fra γ env st ρ s)
  (hsw:swapsWith (.ListComp pelt [⟨.Name (x:Str) px,pit,ifs,0⟩] cs pos) (some (.Name (y:Str) py)) spos.line env=pure true) (hy:kd env.scope y=some .local∨kd env.scope y=some .cell)
  (w:wE (Calls C k) C.glo it st (fun vi st=>∃ items,dR vi items∧eU f items [] st fun out st=>jH out st fun v st=>Q .next (st.set y v)) X):
  wpAny C.M A (exec (.Assign [.Name (y:Str) py] (.ListComp pelt [⟨.Name (x:Str) px,pit,ifs,0⟩] cs pos) spos) env) (dQ C γ env ρ st s Q) (bN C γ env ρ st s X) s:=by
 have hnm:=cO hco
 rw [exec_Assign_Name_used _ _ _ _ hsw]
 refine wpAny_bind (wpAny_standAt (wpAny_bind ?_))
 show wpAny _ A (do let _ ← comprehension (.ListComp pelt [⟨.Name (x:Str) px,pit,ifs,0⟩] cs pos) cs env _ (newList []) false (eval pit env) (some (assign (.Name (y:Str) py) env))) _ _ s
 refine wpAny_bind (wpAny_mono (wpAny_comprehension_free (use:=some (assign (.Name (y:Str) py) env)) (Q:=fun _ s'=>dQ C γ env ρ st s Q .next s') rfl (fun v=>cA hset v) (hnm.closure F) hnm.kind (fun p hp h=>hnm.loc p hp h)
  (hi.stm rfl hr I F w fun mi s₁ vi st₁ ρ₁ w₁ r₁ I₁ F₁ S₁=>?_)) (fun _ s' hq=>wpAny_pure (wpAny_pure hq)) fun _ _ e=>e)
 obtain ⟨items,e,w₁⟩:=w₁
 refine de (RR:=fun acc C'=>compPost C.M A (bN C γ env ρ st s X) (some (assign (.Name (y:Str) py) env)) (fun _ s'=>dQ C γ env ρ st s Q .next s') acc C') hnm T hr I₁ F₁ (eK hr I₁ r₁ e) w₁ ?_
 intro D Cl acc ρ' st' s' dD dC nDC gD gC J hl w'
 obtain ⟨v,st2,ρ2,hq,hrel,I2,F2,S2⟩:=sR I₁ F₁ dD dC nDC gD J hl w'
 obtain ⟨m,hm⟩:=J.ns
 show wpAny _ A (assign (.Name (y:Str) py) env (.ref D)) _ _ _
 refine wpAny_assign_Name (wpAny_mono (ec hy I2 F2 hrel) (fun _ s3 p=>?_) fun _ _ e=>e)
 obtain ⟨I3,F3,S3⟩:=p
 have nO: ¬ Own env Cl:=fun q=>gC (F₁.own_ghost q)
 refine ⟨m,aG hm fun o e=>S3.keep _ o e (I2.ghost_nl (.inr rfl)) nO,fun h' hs=>?_⟩
 have k1: ∀ b o,b≠Cl→s3.heap.get? b=some o→h'.get? b=some o:=fun b o hb e=>hs.extBut b o hb e
 refine ⟨.next,st2.set y v,ρ2,hq,.next,I3.lose (.inr rfl) (fun q=>gC (γ.bh _ q)) (fun _=>Iff.rfl) (fun _=>.inl) (fun _ q=>q) (fun _ q=>q) gC k1 rfl rfl,F3.lose F₁ (.inr rfl) (fun _=>.inl) gC k1,?_⟩
 have S13:cg (Own env) ρ₁ st₁.H s₁ ρ2 (st2.set y v).H s3:=(Stp.w S2).trans S3
 exact (Stp.w S₁).trans (S13.touch (.inr dC) k1)
theorem kZ {x:String} {e:E} {pe:Expr} {py spos:Pos} (hk:jK env.scope x=true) (hc:swapsWith pe (some (.Name (x:Str) py)) spos.line env=pure false) (he:SE C k env.scope e pe) (hr:bK (2*k+1) A γ) (I:Inv C γ ρ st.H s) (F:Fra γ env st ρ s) (w:wS (Calls C k) C.glo (.asg x e) st Q X):
  wpAny C.M A (exec (.Assign [.Name (x:Str) py] pe spos) env) (dQ C γ env ρ st s Q) (bN C γ env ρ st s X) s:=by
 have hk:kd env.scope x=some .local∨kd env.scope x=some .cell:=(Bool.or_eq_true_iff.mp hk).imp beq_iff_eq.mp beq_iff_eq.mp
 exact wpAny_Assign_Name (he.stm rfl hr I F w fun mv s₁ v st₁ ρ₁ w₁ r₁ I₁ F₁ S₁=>wpAny_mono (ec hk I₁ F₁ r₁) (fun _ s₂ p=>⟨.next,_,ρ₁,w₁,.next,p.1,p.2.1,S₁.w.trans p.2.2⟩) fun _ _ x=>x) hc
theorem xv {x:String} {e:E} {pe:Expr} {py spos:Pos} (hk:jK sc x=true) (hc:dm pe=false) (he:SE C k sc e pe):SS C k sc (.asg x e) (.Assign [.Name (x:Str) py] pe spos):=by
 rintro env A s γ ρ st Q X rfl hr ht I F w
 exact kZ hk (dh hc) he hr I F w
theorem nZ {pelt:Expr} {y:String} {gs:List Comprehension} {py pos:Pos} {cs:Scope} {l:Nat}: ∃ b,swapsWith (.ListComp pelt gs cs pos) (some (.Name (y:Str) py)) l env=pure b:=⟨_,rfl⟩
theorem nN {y x:String} {e it:E} {pelt pit:Expr} {px py pos spos:Pos} {ifs:List Expr} {cs:Scope} {f:V→St→(List V→St→Prop)→Prop} (hy:jK env.scope y=true) (hco:cD cs env.scope x=true) (hset:bu pit=false) (hi:SE C k env.scope it pit) (T:tN False C A γ cs env x ifs pelt f) (he:SE C k env.scope e (.ListComp pelt [⟨.Name (x:Str) px,pit,ifs,0⟩] cs pos)) (hr:bK (2*k+1) A γ) (I:Inv C γ ρ st.H s) (F:Fra γ env st ρ s)
  (w:wE (Calls C k) C.glo it st (fun vi st=>∃ items,dR vi items∧eU f items [] st fun out st=>jH out st fun v st=>Q .next (st.set y v)) X) (w':wS (Calls C k) C.glo (.asg y e) st Q X):
  wpAny C.M A (exec (.Assign [.Name (y:Str) py] (.ListComp pelt [⟨.Name (x:Str) px,pit,ifs,0⟩] cs pos) spos) env) (dQ C γ env ρ st s Q) (bN C γ env ρ st s X) s:=by
 obtain ⟨b,hb⟩:=nZ (env:=env) (pelt:=pelt) (y:=y) (gs:=[⟨.Name (x:Str) px,pit,ifs,0⟩]) (py:=py) (pos:=pos) (cs:=cs) (l:=spos.line)
 cases b with
 | false=>exact kZ hy hb he hr I F w'
 | true=>exact rC hi hco hset T hr I F hb ((Bool.or_eq_true_iff.mp hy).imp beq_iff_eq.mp beq_iff_eq.mp) w
theorem lD {y x:String} {elt it:E} {pelt pit:Expr} {px py pos spos:Pos} {cs:Scope} (hy:jK sc y=true) (hco:cD cs sc x=true) (hset:bu pit=false) (he:SE C k (cc cs sc) elt pelt) (hi:SE C k sc it pit):
  SS C k sc (.asg y (.comp elt x it)) (.Assign [.Name (y:Str) py] (.ListComp pelt [⟨.Name (x:Str) px,pit,[],0⟩] cs pos) spos):=by
 rintro env A s γ ρ st Q X rfl hr ht I F w
 exact nN hy hco hset hi (gv he hr) (uM hco hset he hi) hr I F w w
theorem jx {y x:String} {elt it c:E} {pelt pit pc:Expr} {px py pos spos:Pos} {cs:Scope} (hy:jK sc y=true) (hco:cD cs sc x=true) (hset:bu pit=false) (he:SE C k (cc cs sc) elt pelt) (hi:SE C k sc it pit) (hc:ST C k (cc cs sc) c pc):
  SS C k sc (.asg y (.compIf elt x it c)) (.Assign [.Name (y:Str) py] (.ListComp pelt [⟨.Name (x:Str) px,pit,[pc],0⟩] cs pos) spos):=by
 rintro env A s γ ρ st Q X rfl hr ht I F w
 exact nN hy hco hset hi (gu he hc hr) (kq hco hset he hi hc) hr I F w w
end
end
noncomputable section
open PySem PyProof.Rows
theorem kE (its:Array Value) (n:Nat) (j:Nat) (v:Value): ∃ n',Obj.mapSeq (·.setIfInBounds j v) { cls:=.type "list",data:=.seq its n }={ cls:=.type "list",data:=.seq (its.setIfInBounds j v) n' }:=by
 simp only [Obj.mapSeq]
 exact ⟨_,rfl⟩
section
variable {prog:Program} {w:World} {A:Around} {E:Value→Shared→Prop} {s:Shared}
theorem jA {l:Addr} {items:Array Value} {k:Int} {t:Tok} {v:Value} {Q:Unit→Shared→Prop} (hl:s.heap.PlainList l items)
  (h0:0≤k) (hfit:k < 2 ^ 63) (hn:k < items.size)
  (hQ: ∀ h',h'.PlainList l (items.setIfInBounds k.toNat v)→Heap.SameBut l s.heap h'→Q () { s with heap:=h' }):
  wpAny (model prog w) A (setItem (.ref l) (.int k t) v) Q E s:=by
 have hl':=hl.isList
 obtain ⟨n,ho⟩:=hl
 unfold setItem
 try with_reducible refine wpAny_holding ?_
 first | refine wpAny_bind (wpAny_pure ?_) | skip
 refine wpAny_bind (wpAny_sequenceKey hl'.typeIs (by decide) ?_)
 refine wpAny_bind (wpAny_callSpecial?_slot (name:=Str.ofString "__setitem__") hl'.typeIs slot_list_setitem
  (wpAny_call_entry slot_list_setitem hl'.typeIs entry_list_setitem ?_ (args_list_setitem _ _ _)))
 show wpAny _ _ (Builtin.List.listSubscript? (.int k t) >>= _) _ _ s
 refine wpAny_bind (wpAny_listSubscript_int (fitsIndex_of h0 hfit) ?_)
 clear hfit
 obtain ⟨j,rfl⟩:=Int.eq_ofNat_of_zero_le h0
 have hj:j < items.size:=by lia
 have hx':items[j]?= some items[j]:=Array.getElem?_eq_getElem hj
 show wpAny _ _ ((seqItemAt l j >>= fun r=>pure (r.map (j,·))) >>= _) _ _ s
 refine wpAny_bind (wpAny_bind (wpAny_seqItemAt ho rfl (wpAny_pure ?_)))
 rw [hx']
 show wpAny _ _ (setSeqItemAt l j v >>= _) _ _ s
 obtain ⟨n',hn'⟩:=kE items n j v
 have hfin:(s.heap.update l (Obj.mapSeq (·.setIfInBounds j v))).PlainList l (items.setIfInBounds j v):=
  ⟨n',by rw [Heap.get?_update_self _ ho (by rw [hn']; rfl),hn']⟩
 refine wpAny_bind (wpAny_setSeqItemAt ho rfl ?_)
 first
  | exact wpAny_bind (wpAny_pure (wpAny_pure ⟨.none,rfl,wpAny_pure (hQ _ hfin (Heap.SameBut.update ..))⟩))
  | exact wpAny_pure ⟨.none,rfl,wpAny_pure (hQ _ hfin (Heap.SameBut.update ..))⟩
end
theorem aI.set {h:Heap} {ρ:List Addr} {N:Addr→Prop}: ∀ {vs:List V} {ms:List Value},aI h ρ N vs ms→∀ (j:Nat) {v:V} {m:Value},Rel h ρ N v m→aI h ρ N (vs.set j v) (ms.set j m)
 | _,_,.nil,_,_,_,_=>.nil
 | _,_,.cons _ q,0,_,_,r=>.cons r q
 | _,_,.cons a q,j+1,_,_,r=>.cons a (aI.set q j r)
section
variable {C:Cx} {k:Nat} {sc:Scope} {γ γ':Gh} {env:Env} {A:Around} {ρ₁:List Addr} {st₁:St} {s₁:Shared} {ρ ρ':List Addr} {st st':St} {s s':Shared} {Q:Flow→St→Prop} {X:String→St→Prop} {i:Nat} {a:Addr} {vs:List V}
theorem bJ.kept {h h':Heap} {ρ ρ':List Addr} {N N':Addr→Prop} (K:cG h ρ N h' ρ' N') {f:Flow} {fl:PySem.Flow} (r:bJ h ρ N f fl):bJ h' ρ' N' f fl:=by
 cases r with
 | next=>exact .next
 | brk=>exact .brk
 | cont=>exact .cont
 | ret r=>exact .ret (r.kept K)
theorem dQ.unlend {fl:PySem.Flow} (J:Inv C γ ρ st.H s) (F:Fra γ env st ρ s) (ha:ρ[i]?= some a) (hH:st.H[i]?= some (.list vs))
  (p:dQ C (lb γ a) env ρ ⟨st.s,st.H.set i .dead⟩ s (fun f st'=>st'.H[i]?= some .dead∧Q f ⟨st'.s,st'.H.set i (.list vs)⟩) fl s'):dQ C γ env ρ st s Q fl s':=by
 obtain ⟨f,st',ρ',⟨h0,h1⟩,h2,h3,h4,h5⟩:=p
 have na: ¬ γ.h a:=J.live_nh ⟨i,_,ha,hH,rfl⟩
 have ha':=h5.pre i a ha
 have lv₀: ¬ Lv ρ (st.H.set i .dead) a:=fun q=>(bG J ha a q).2 rfl
 have nO: ¬ Own env a:=fun q=>na (F.own_ghost q)
 obtain ⟨ms,⟨n,hx⟩,hr,hl⟩:=J.obj i a _ ha hH
 have K5:cG s.heap ρ (Nl γ ρ st.H) s'.heap ρ' (Nl (lb γ a) ρ' st'.H):=
  ⟨fun b o e n=>h5.keep b o e (fun q=>n (.inl (bG J ha b q).1)) fun q=>n (.inr (F.own_ghost q)),fun b q=>by
   rcases q with q | q | q
   ·by_cases ho:Own env b
    ·exact .inl (.inr (F.own_ghost ho))
    ·exact (h5.live b ho q).imp (fun z=>.inl (bG J ha b z).1) id
   ·exact .inl (.inr q)
   ·exact .inl (.inl (q▸⟨i,_,ha,hH,rfl⟩)),h5.pre⟩
 have r:rO C s'.heap ρ' (Nl (lb γ a) ρ' st'.H) (.list vs) a:=⟨ms,⟨n,h5.same hx lv₀ nO fun es m q=>by cases q⟩,hr.kept K5,hl⟩
 have I':=h3.unlend na ha' h0 r
 have K:=eW (γ:=γ) (vs:=vs) (s:=s') ha' h0
 refine ⟨f,⟨st'.s,st'.H.set i (.list vs)⟩,ρ',h1,h2.kept K,I',h4.re F K rfl (fun b o _ e=>⟨o,e,.refl o⟩) (fun b q=>I'.ghost_nl q),⟨fun b o e n nw=>h5.keep b o e (fun q=>n (bG J ha b q).1) nw,fun b nw q=>?_,h5.pre⟩⟩
 rcases (jS ha' h0 b).mp q with q | q
 ·exact (h5.live b nw q).imp (fun z=>(bG J ha b z).1) id
 ·exact .inl (q▸⟨i,_,ha,hH,rfl⟩)
theorem bN.none {ev:Value} {s'':Shared} {P:Prop} (p:bN C γ env ρ st s noX ev s''):P:=by
 obtain ⟨_,_,_,h,_⟩:=p; exact h.elim
theorem pH {o i e:E} {po pi pe:Expr} {py p:Pos} (hc:dm pe=false) (ho:SE C k sc o po) (hi:SE C k sc i pi) (he:SE C k sc e pe):SS C k sc (.asgSub o i e) (.Assign [.Subscript po pi py] pe p):=by
 intro env A s γ ρ st Q X hs hr ht I F w
 refine wpAny_Assign_Subscript (he.stm hs hr I F w fun mv s₁ v st₁ ρ₁ w₁ r₁ I₁ F₁ S₁=>ho.stmW hs hr S₁.w I₁ F₁ w₁ fun mo s₂ vo st₂ ρ₂ w₂ r₂ I₂ F₂ S₂=>
  hi.stmW hs hr (S₁.trans S₂).w I₂ F₂ w₂ fun mi s₃ vi st₃ ρ₃ w₃ r₃ I₃ F₃ S₃=>?_) (dh hc)
 have rv:=(r₁.kept S₂.kept).kept S₃.kept
 have ro:=r₂.kept S₃.kept
 have S03:=(S₁.trans S₂).trans S₃
 rcases w₃ with ⟨j,kk,xs,⟨rfl,rfl⟩,hxs,h0,hlt,hQ⟩ | ⟨j,kk,kvs,⟨rfl,rfl⟩,hxs,hlt,hQ⟩ | ⟨j,kk,kvs,⟨rfl,rfl⟩,hxs,hlt,hQ⟩ | z
 ·obtain ⟨x,rfl,ha⟩:=ro.loc_inv
  obtain ⟨t,rfl⟩:=r₃.int_inv
  obtain ⟨ms,hpl,hrl,hlen⟩:=I₃.obj j _ _ ha hxs
  have hn:kk < ((ms.toArray.size:Nat):Int):=by rw [List.size_toArray,← hrl.length]; exact (Int.toNat_lt h0).mp hlt
  have hsz:ms.toArray.size≤2 ^ 62:=by rw [List.size_toArray,← hrl.length]; exact Nat.le_trans hlen (by unfold au; decide)
  refine jA hpl h0 (by clear hlt hxs; lia) hn fun h' hp' sb=>?_
  obtain ⟨I',S'⟩:=I₃.upd (s':={ s₃ with heap:=h' }) (o':=.list (xs.set kk.toNat v)) ha hxs rfl rfl sb.2 (cb hp') rfl rfl fun kp=>
   ⟨ms.set kk.toNat mv,by simpa using hp',(hrl.kept kp).set _ (rv.kept kp),by rw [List.length_set]; exact hlen⟩
  exact ⟨.next,_,ρ₃,hQ,.next,I',F₃.step S' rfl,(S03.trans S').w⟩
 ·obtain ⟨x,rfl,ha⟩:=ro.loc_inv
  obtain ⟨t,rfl,hk1,hk2⟩:=r₃.str_inv
  obtain ⟨ms,hd,hrl,⟨hlen,hm⟩,hks⟩:=I₃.obj j _ _ ha hxs
  refine wpAny_setItem_pairs (strKind_is _ _ (sOf kk) t) hd (fun h' hd' sb=>?_) (by rw [← hrl.length]; exact hlen)
  obtain ⟨I',S'⟩:=I₃.upd (s':={ s₃ with heap:=h',toks:=s₃.toks+1 }) (o':=.dictS (jX kk v kvs)) ha hxs rfl rfl sb.2 (let ⟨o,_,_,ho,_⟩:=hd'; ⟨o,ho⟩) rfl rfl fun kp=>
   ⟨_,hd',(hrl.map fun _ _ q=>q.kept kp).store jC kk (rv.kept kp),⟨Nat.le_trans (gK kk v kvs) (show kvs.length+1≤16777216 by exact lin [_] [(1,.a (.v 0) (.n 1),.n 1000000)] 1 (.a (.v 0) (.n 1)) (.n 16777216) rfl hlt),hm⟩,fun p hp=>(pY hp).elim (fun q=>q▸⟨hk1,hk2⟩) fun ⟨q,q1,q2⟩=>q2▸hks q q1⟩
  exact ⟨.next,_,ρ₃,hQ,.next,I',F₃.step S' rfl,(S03.trans S').w⟩
 ·obtain ⟨x,rfl,ha⟩:=ro.loc_inv
  obtain ⟨t,rfl⟩:=r₃.int_inv
  obtain ⟨ms,hd,hrl,hlen,hm⟩:=I₃.obj j _ _ ha hxs
  refine wpAny_setItem_pairs (intKind_is _ _ kk t) hd (fun h' hd' sb=>?_) (by rw [← hrl.length]; exact hlen)
  obtain ⟨I',S'⟩:=I₃.upd (s':={ s₃ with heap:=h',toks:=s₃.toks+1 }) (o':=.dictI (jX kk v kvs)) ha hxs rfl rfl sb.2 (let ⟨o,_,_,ho,_⟩:=hd'; ⟨o,ho⟩) rfl rfl fun kp=>
   ⟨_,hd',(hrl.map fun _ _ q=>q.kept kp).store (fun _ _ e=>e) kk (rv.kept kp),Nat.le_trans (gK kk v kvs) (show kvs.length+1≤16777216 by exact lin [_] [(1,.a (.v 0) (.n 1),.n 1000000)] 1 (.a (.v 0) (.n 1)) (.n 16777216) rfl hlt),hm⟩
  exact ⟨.next,_,ρ₃,hQ,.next,I',F₃.step S' rfl,(S03.trans S').w⟩
 ·exact z.elim
theorem og {o e:E} {x:String} {po pe:Expr} {py p:Pos} (hx:x∈C.ats) (hc:dm pe=false) (ho:SE C k sc o po) (he:SE C k sc e pe):SS C k sc (.asgAttr o x e) (.Assign [.Attribute po (x:Str) py] pe p):=by
 intro env A s γ ρ st Q X hs hr ht I F w
 refine plainObj_wpAny_Assign_Attribute (he.stm hs hr I F w fun mv s₁ v st₁ ρ₁ w₁ r₁ I₁ F₁ S₁=>ho.stmW hs hr S₁.w I₁ F₁ w₁ fun mo s₂ vo st₂ ρ₂ w₂ r₂ I₂ F₂ S₂=>?_) (dh hc)
 obtain ⟨j,fs,hob,hl,hQ⟩:=w₂
 exact kx hx I₂ r₂ (r₁.kept S₂.kept) hob hl fun s' I' S'=>⟨.next,_,ρ₂,hQ,.next,I',F₂.step S' rfl,((S₁.trans S₂).trans S').w⟩
theorem xp {c:E} {b:Ss} {pc:Expr} {pb:List Stmt} {p:Pos} (hc:ST C k sc c pc) (hb:SSs C k sc b pb):SS C k sc (.whl c b) (.While pc pb [] p):=by
 rintro env A s γ ρ st Q X hs hr ht I F ⟨n,w⟩
 refine wpAny_While (codeAny_whileLoop (fun m s'=>∃ ρ' st',Inv C γ ρ' st'.H s'∧Fra γ env st' ρ' s'∧cg (Own env) ρ st.H s ρ' st'.H s'∧
  mA (fun st Q=>wT (Calls C k) C.glo c st Q noX) (fun st Q=>wSs (Calls C k) C.glo b st Q noX) m st' Q) ?_ n ⟨ρ,st,I,F,.refl,w⟩)
 rintro m s' ⟨ρ',st',I',F',S',w'⟩
 cases m with
 | zero=>exact False.elim w'
 | succ m=>
  refine wpAny_mono (hc env A s' γ ρ' st' _ _ hs hr I' F' w') (fun bb s₁ p=>?_) fun _ _ p=>(p.frame F').none
  obtain ⟨st₁,ρ₁,w₁,e₁,I₁,S₁⟩:=p
  have F₁:Fra γ env st₁ ρ₁ s₁:=F'.step S₁ e₁
  have S01:=S'.trans (Stp.w S₁)
  rcases w₁ with ⟨rfl,w₁⟩ | ⟨rfl,w₁⟩
  ·refine wpAny_mono (hb env A s₁ γ ρ₁ st₁ _ _ hs hr ht I₁ F₁ w₁) (fun fl s₂ p=>?_) fun _ _ p=>p.none
   obtain ⟨f,st₂,ρ₂,h1,h2,h3,h4,h5⟩:=p
   have S02:=S01.trans h5
   rcases h1 with ⟨rfl,h1⟩ | ⟨rfl,h1⟩ | ⟨rfl,h1⟩ | ⟨v,rfl,h1⟩
   ·cases h2; exact ⟨m,Nat.lt_succ_self m,ρ₂,st₂,h3,h4,S02,h1⟩
   ·cases h2; exact ⟨m,Nat.lt_succ_self m,ρ₂,st₂,h3,h4,S02,h1⟩
   ·cases h2; exact ⟨.next,st₂,ρ₂,h1,.next,h3,h4,S02⟩
   ·cases h2 with
    | ret r=>exact ⟨_,st₂,ρ₂,h1,.ret r,h3,h4,S02⟩
  ·exact wpAny_execs_nil ⟨.next,st₁,ρ₁,w₁,.next,I₁,F₁,S01⟩
end
end
noncomputable section
open PySem PyProof.Rows PySem.W
noncomputable def fT (γ:Gh) (e T:Addr) (h h':Heap):Prop:=(∀ a o,h.get? a=some o→a≠e→a≠T→∃ o',h'.get? a=some o'∧dU o o'∧(¬ γ.f a→o'=o))∧∀ a o,h.get? a=some o→∃ o',h'.get? a=some o'
noncomputable def Exo (h:Heap) (a:Addr):Prop:=∀ o,h.get? a=some o→(∃ vs,o.data=.fields vs)∧o.cls≠.type "range"
theorem fF.exo {h:Heap} {e T cls:Addr} {fl:Value} (x:fF h e T cls fl):Exo h e∧Exo h T:=by
 obtain ⟨oe,vs,oT,ts,he,⟨hc,hdi,hd⟩,⟨h1,h2⟩,hTe,hT,hcT,hdT,h3⟩:=x
 refine ⟨fun o q=>?_,fun o q=>?_⟩
 ·rw [he] at q; cases q; exact ⟨⟨_,hd⟩,by rw [hc]; exact fun z=>Value.noConfusion z⟩
 ·rw [hT] at q; cases q; exact ⟨⟨_,hdT⟩,by rw [hcT]; decide⟩
theorem qM {h:Heap} {e cls t:Addr} (he:h.get? e=some { cls:=.ref cls,data:=.fields #[.ref t,.none,.none,.none,.bool false,.none]}):Exo h e:=fun o q=>by
 rw [he] at q; cases q; exact ⟨⟨_,rfl⟩,fun z=>Value.noConfusion z⟩
noncomputable def jW (γ:Gh) (h:Heap):Prop:=∀ a,γ.f a→∃ o es n,h.get? a=some o∧o.data=.dict es n
noncomputable def oH (γ:Gh) (l:List Env):Prop:=∀ env∈l,env.scope.kind≠.module∧∃ L,env.frame=some L∧γ.f L
section
variable {γ:Gh} {M:Model} {A:Around} {E:Value→Shared→Prop} {s:Shared}
theorem fT.trans {e T T':Addr} {h h' h'':Heap} (x:fT γ e T h h') (y:fT γ e T' h' h'') (hT:T'=T∨h.get? T'=none):fT γ e T h h'':=⟨fun a o ho ne nT=>by
 obtain ⟨o',h1,h2,h3⟩:=x.1 a o ho ne nT
 obtain ⟨o'',q1,q2,q3⟩:=y.1 a o' h1 ne fun z=>by
  rcases hT with q | q
  ·exact nT (z.trans q)
  ·rw [z,q] at ho; cases ho
 exact ⟨o'',q1,h2.trans q2,fun z=>(q3 z).trans (h3 z)⟩,fun a o q=>let ⟨o',q'⟩:=x.2 a o q; y.2 a o' q'⟩
theorem dU.dict {o o':Obj} (x:dU o o') {es:Array DictEntry} {n:Nat} (h:o.data=.dict es n):o'.data=.dict es n:=by
 rcases x with rfl | ⟨_,_,_,_,rfl⟩
 ·exact h
 ·exact h
theorem jW.slip {e T:Addr} {h h':Heap} (d:jW γ h) (x:fT γ e T h h') (he: ¬ γ.f e) (hT: ¬ γ.f T):jW γ h':=fun a q=>by
 obtain ⟨o,es,n,h1,h2⟩:=d a q
 obtain ⟨o',q1,q2,_⟩:=x.1 a o h1 (fun z=>he (z▸q)) fun z=>hT (z▸q)
 exact ⟨o',es,n,q1,q2.dict h2⟩
theorem kN {h:Heap} (d:jW γ h) {as:List Addr}: ∀ {l:List Env},oH γ l→(∀ env∈l,∀ L,env.frame=some L→L∈as)→h.FunFrames (hideAll h as) l
 | [],_,_=>trivial
 | env::l,hs,ha=>by
  obtain ⟨hk,L,hf,hL⟩:=hs env List.mem_cons_self
  obtain ⟨o,es,n,ho,hd⟩:=d L hL
  exact ⟨hk,⟨L,o,hf,hideAll_none as (ha env List.mem_cons_self L hf),ho,fun vs q=>by rw [hd] at q; cases q⟩,kN d (fun e he=>hs e (List.mem_cons_of_mem _ he)) fun e he=>ha e (List.mem_cons_of_mem _ he)⟩
theorem iO {env:Env} {l:List Env} {L e cls:Addr} {oe:Obj} {vs:Array Value} {head:Value} {hadNext:Bool} {Q:Unit→Shared→Prop} (hfr:A.frames=some (env::l)) (hf:env.frame=some L) (hs:oH γ (env::l)) (d:jW γ s.heap)
  (he:s.heap.get? e=some oe) (hc:oe.cls=.ref cls∧oe.dict=none) (hd:oe.data=.fields vs) (hsz:1 < vs.size) (h2:vs[2]?= some .none)
  (h: ∀ h' T,s.heap.get? T=none→fT γ e T s.heap h'→fF h' e T cls (rawInt L)→Q () { s with heap:=h' }):
  wpAny M A (do let a ← frameOf env; let pl ← entryPlaceOf L hadNext; let b ← EntryCells.newEntry head a .none (rawInt L) .none pl; setField (.ref e) 1 b) Q E s:=by
 have hin: ∀ b,b∈(env::l).filterMap (·.frame)→γ.f b:=fun b hm=>by
  obtain ⟨en,hen,q⟩:=List.mem_filterMap.mp hm
  obtain ⟨_,L',q1,q2⟩:=hs en hen
  rw [q] at q1; cases q1; exact q2
 have hene:e ∉ (env::l).filterMap (·.frame):=fun hm=>by
  obtain ⟨o,es,n,q1,q2⟩:=d e (hin e hm)
  rw [he] at q1; cases q1; rw [hd] at q2; cases q2
 refine wpAny_bind (wpAny_frameOf_fun hfr (kN d hs fun en hen L hL=>List.mem_filterMap.mpr ⟨en,hen,hL⟩) hf fun h₁ hs₁=>?_)
 refine wpAny_bind (wpAny_entryPlaceOf fun pl hpl=>?_)
 unfold EntryCells.newEntry newFields
 refine wpAny_bind (wpAny_newObj_type ?_ (hpl.sizeOk5 _ _ _ _ _))
 have he₁:h₁.get? e=some oe:=(hs₁.2.1 e hene).trans he
 have he₂:=Heap.get?_push_of_some (h:=h₁) { cls:=.type "traceback",dict:=none,data:=.fields ([head,.ref L,.none,rawInt L,.none]++(if pl.isEmpty then List.replicate 6 Value.none else pl)).toArray } he₁
 refine wpAny_setField he₂ hd hsz ?_
 have hTe:h₁.objs.size≠e:=Nat.ne_of_gt (Heap.lt_size he₁)
 have hd₃:=Obj.data_mapFields hd (·.setIfInBounds 1 (Value.ref h₁.objs.size))
 have he₃:=Heap.get?_update_self (Obj.mapFields (·.setIfInBounds 1 (Value.ref h₁.objs.size))) he₂ (Obj.isFreed_of_fields hd₃)
 have hT₃:=(Heap.get?_update_other (h₁.push { cls:=.type "traceback",dict:=none,data:=.fields ([head,.ref L,.none,rawInt L,.none]++(if pl.isEmpty then List.replicate 6 Value.none else pl)).toArray })
  (Obj.mapFields (·.setIfInBounds 1 (Value.ref h₁.objs.size))) (Ne.symm hTe)).trans (Heap.get?_push_size h₁ rfl)
 refine h _ h₁.objs.size ?_ ⟨fun a o ho ne nT=>?_,fun a o ho=>?_⟩ ⟨_,_,_,_,he₃,⟨(Obj.cls_mapFields _ _).trans hc.1,?_,hd₃⟩,⟨by simp [hsz],by rw [Array.getElem?_setIfInBounds_ne (by decide)]; exact h2⟩,hTe,hT₃,rfl,rfl,by first | (simp; done) | (rcases hpl with rfl | ⟨_,_,_,_,_,_,_,rfl⟩<;>simp)⟩
 ·cases q:s.heap.get? h₁.objs.size with
  | none=>rfl
  | some o=>
   obtain ⟨sl,z⟩:=hs₁.2.2 _ o q
   rw [aE] at z; cases z
 ·rw [Heap.get?_update_other _ _ (Ne.symm ne)]
  by_cases hm:a∈(env::l).filterMap (·.frame)
  ·obtain ⟨sl,z⟩:=hs₁.2.2 a o ho
   obtain ⟨o',es,n,q1,q2⟩:=d a (hin a hm)
   rw [ho] at q1; cases q1
   exact ⟨_,Heap.get?_push_of_some _ z,.inr ⟨es,n,sl,q2,rfl⟩,fun z=>absurd (hin a hm) z⟩
  ·exact ⟨o,Heap.get?_push_of_some _ ((hs₁.2.1 a hm).trans ho),.refl o,fun _=>rfl⟩
 ·by_cases ne:a=e
  ·subst ne; exact ⟨_,he₃⟩
  ·rw [Heap.get?_update_other _ _ (Ne.symm ne)]
   obtain ⟨sl,z⟩:=hs₁.2.2 a o ho
   exact ⟨_,Heap.get?_push_of_some _ z⟩
 ·show (Obj.mapFields _ oe).dict=none
  rw [← hc.2]; obtain ⟨c,di,da,sl⟩:=oe; simp only at hd; subst hd; rfl
theorem sB {env:Env} {l:List Env} {L e T cls:Addr} {Q:Unit→Shared→Prop} (hfr:A.frames=some (env::l)) (hf:env.frame=some L) (hs:oH γ (env::l)) (d:jW γ s.heap) (x:fF s.heap e T cls .none)
  (h: ∀ h' T',s.heap.get? T'=none→fT γ e T s.heap h'→fF h' e T' cls (rawInt L)→Q () { s with heap:=h' }):wpAny M A (noteFrame (.ref e) env) Q E s:=by
 obtain ⟨oe,vs,oT,ts,he,⟨hc,hdi,hd⟩,⟨h1,h2⟩,hTe,hT,hcT,hdT,h3⟩:=x
 unfold noteFrame
 simp only [hf]
 refine wpAny_bind (wpAny_field he hd h1 ?_)
 rw [if_pos (show (Value.ref T != Value.none)=true from by simp)]
 refine wpAny_bind (wpAny_field hT hdT h3 ?_)
 rw [if_neg (show ¬ ((Value.none == rawInt L)=true) from by simp [rawInt])]
 refine wpAny_bind (wpAny_setField hT hdT (Array.getElem?_eq_some_iff.mp h3).1 ?_)
 have other: ∀ b,b≠T→(s.heap.update T (Obj.mapFields (·.setIfInBounds 3 Value.none))).get? b=s.heap.get? b:=fun b hb=>Heap.get?_update_other _ _ (Ne.symm hb)
 have sl:fT γ e T s.heap (s.heap.update T (Obj.mapFields (·.setIfInBounds 3 Value.none))):=⟨fun a o ho _ nT=>⟨o,(other a nT).trans ho,.refl o,fun _=>rfl⟩,fun a o ho=>by
  by_cases q:a=T
  ·subst q; exact ⟨_,Heap.get?_update_self _ hT (Obj.isFreed_of_fields (Obj.data_mapFields hdT _))⟩
  ·exact ⟨o,(other a q).trans ho⟩⟩
 have hfe: ¬ γ.f e:=fun q=>by obtain ⟨o,es,n,q1,q2⟩:=d e q; rw [he] at q1; cases q1; rw [hd] at q2; cases q2
 have hfT: ¬ γ.f T:=fun q=>by obtain ⟨o,es,n,q1,q2⟩:=d T q; rw [hT] at q1; cases q1; rw [hdT] at q2; cases q2
 refine iO (s:={ s with heap:=s.heap.update T (Obj.mapFields (·.setIfInBounds 3 Value.none))}) hfr hf hs (d.slip sl hfe hfT) ((other e (Ne.symm hTe)).trans he) ⟨hc,hdi⟩ hd (Array.getElem?_eq_some_iff.mp h1).1 h2 fun h' T' hn sl' x'=>?_
 have hT':s.heap.get? T'=none:=by
  by_cases q:T'=T
  ·subst q
   have:=Heap.get?_update_self (Obj.mapFields (·.setIfInBounds 3 Value.none)) hT (Obj.isFreed_of_fields (Obj.data_mapFields hdT _))
   rw [show (s.heap.update T' (Obj.mapFields (·.setIfInBounds 3 Value.none))).get? T'=none from hn] at this; cases this
  ·rw [← other T' q]; exact hn
 exact h h' T' hT' (sl.trans sl' (.inr hT')) x'
theorem sy {env:Env} {l:List Env} {L e cls t:Addr} {Q:Unit→Shared→Prop} (hfr:A.frames=some (env::l)) (hf:env.frame=some L) (hs:oH γ (env::l)) (d:jW γ s.heap) (he:s.heap.get? e=some { cls:=.ref cls,data:=.fields #[.ref t,.none,.none,.none,.bool false,.none]})
  (h: ∀ h' T',s.heap.get? T'=none→fT γ e e s.heap h'→fF h' e T' cls (rawInt L)→Q () { s with heap:=h' }):wpAny M A (noteFrame (.ref e) env) Q E s:=by
 unfold noteFrame
 simp only [hf]
 refine wpAny_bind (wpAny_field he rfl (x:=.none) rfl ?_)
 rw [if_neg (by decide)]
 exact iO hfr hf hs d he ⟨rfl,rfl⟩ rfl (by simp) rfl fun h' T hn sl x=>h h' T hn ⟨fun a o ho ne _=>sl.1 a o ho ne (fun z=>by rw [z,hn] at ho; cases ho),sl.2⟩ x
theorem ef {e T cls:Addr} {fl:Value} {fr:Option Addr} {Q:Unit→Shared→Prop} (x:fF s.heap e T cls fl) (h: ∀ h',fT γ e T s.heap h'→fF h' e T cls (fr.elim .none fun f=>rawInt f)→Q () { s with heap:=h' }):wpAny M A (setFlight (.ref e) fr) Q E s:=by
 obtain ⟨oe,vs,oT,ts,he,⟨hc,hdi,hd⟩,⟨h1,h2⟩,hTe,hT,hcT,hdT,h3⟩:=x
 have other: ∀ b,b≠T→(s.heap.update T (Obj.mapFields (·.setIfInBounds 3 (fr.elim Value.none fun f=>rawInt f)))).get? b=s.heap.get? b:=fun b hb=>Heap.get?_update_other _ _ (Ne.symm hb)
 unfold setFlight
 refine wpAny_bind (wpAny_field he hd h1 ?_)
 rw [if_pos (show (Value.ref T != Value.none)=true from by simp)]
 refine wpAny_setField hT hdT (Array.getElem?_eq_some_iff.mp h3).1 (h _ ⟨fun a o ho _ nT=>⟨o,(other a nT).trans ho,.refl o,fun _=>rfl⟩,fun a o ho=>by
  by_cases q:a=T
  ·subst q; exact ⟨_,Heap.get?_update_self _ hT (Obj.isFreed_of_fields (Obj.data_mapFields hdT _))⟩
  ·exact ⟨o,(other a q).trans ho⟩⟩ ?_)
 exact ⟨oe,vs,_,_,(other e (Ne.symm hTe)).trans he,⟨hc,hdi,hd⟩,⟨h1,h2⟩,hTe,Heap.get?_update_self _ hT (Obj.isFreed_of_fields (Obj.data_mapFields hdT _)),(Obj.cls_mapFields _ _).trans hcT,Obj.data_mapFields hdT _,by simp [(Array.getElem?_eq_some_iff.mp h3).1]⟩
theorem fT.refl {e T:Addr} {h:Heap}:fT γ e T h h:=⟨fun a o ho _ _=>⟨o,ho,.refl o,fun _=>rfl⟩,fun a o ho=>⟨o,ho⟩⟩
theorem mT {C:Cx} {env:Env} {l:List Env} {L:Addr} {b:Heap} {ev:Value} {c:String} {Q:Unit→Shared→Prop} (hfr:A.frames=some (env::l)) (hf:env.frame=some L) (hl:oH γ (env::l)) (d:jW γ s.heap)
  (hb: ∀ a o,b.get? a=some o→∃ o',s.heap.get? a=some o') (x:wD C env b s ev c)
  (h: ∀ h' e T T' cls,ev=.ref e→(c∈C.exs∧C.mg c=some (.ref cls))→b.get? e=none→b.get? T=none→b.get? T'=none→(Exo s.heap e∧Exo s.heap T)→fT γ e T s.heap h'→(T'=T∨s.heap.get? T'=none)→fF h' e T' cls (rawInt L)→Q () { s with heap:=h' }):wpAny M A (noteFrame ev env) Q E s:=by
 have up: ∀ a,s.heap.get? a=none→b.get? a=none:=fun a q=>by
  cases e:b.get? a with
  | none=>rfl
  | some o=>obtain ⟨o',z⟩:=hb a o e; rw [q] at z; cases z
 rcases x with (⟨e,cls,T,rfl,hc,he,hT,x⟩ | ⟨e,cls,t,rfl,hc,he,ho⟩) | ⟨e,cls,T,L',rfl,hc,he,hT,hL',x⟩
 ·refine sB hfr hf hl d x fun h' T' hn sl x'=>?_
  exact h h' e T T' cls rfl hc he hT (up _ hn) x.exo sl (.inr hn) x'
 ·refine sy hfr hf hl d ho fun h' T' hn sl x'=>?_
  exact h h' e e T' cls rfl hc he he (up _ hn) ⟨qM ho,qM ho⟩ (sl.trans fT.refl (.inr hn)) (.inr hn) x'
 ·rw [hf] at hL'; cases hL'
  have x2:=x
  obtain ⟨oe,vs,oT,ts,q1,⟨_,_,q2⟩,⟨q3,_⟩,_,q4,_,q5,q6⟩:=x2
  unfold noteFrame
  simp only [hf]
  refine wpAny_bind (wpAny_field q1 q2 q3 ?_)
  rw [if_pos (show (Value.ref T != Value.none)=true from by simp)]
  refine wpAny_bind (wpAny_field q4 q5 q6 ?_)
  rw [if_pos (beq_self_eq_true _)]
  exact wpAny_pure (h s.heap e T T cls rfl hc he hT hT x.exo fT.refl (.inl rfl) x)
theorem yH {C:Cx} {env:Env} {l:List Env} {L:Addr} {b:Heap} {ev:Value} {c:String} {Q:Unit→Shared→Prop} (hfr:A.frames=some (env::l)) (hf:env.frame=some L) (hl:oH γ (env::l)) (d:jW γ s.heap)
  (hb: ∀ a o,b.get? a=some o→∃ o',s.heap.get? a=some o') (x:wD C env b s ev c)
  (h: ∀ h' e T,ev=.ref e→b.get? e=none→b.get? T=none→(Exo s.heap e∧Exo s.heap T)→fT γ e T s.heap h'→lc C b { s with heap:=h' } ev c→Q () { s with heap:=h' }):wpAny M A (noteFrame ev env) (fun _ s₁=>wpAny M A (setFlight ev none) Q E s₁) E s:=by
 refine mT hfr hf hl d hb x fun h' e T T' cls hev hc he hT hT' xo sl hn xa=>?_
 subst hev
 refine ef (γ:=γ) (s:={ s with heap:=h' }) (fr:=none) xa fun h'' sl' x''=>?_
 exact h h'' e T rfl he hT xo (sl.trans sl' hn) ⟨e,cls,T',rfl,hc,he,hT',x''⟩
end
section
variable {γ:Gh} {C:Cx} {e T:Addr} {h h':Heap} {ρ ρ':List Addr} {N:Addr→Prop} {H H':List HO} {s s₁:Shared} {W:Addr→Prop} {env:Env} {st:St} {k:Nat} {A:Around} {sc:Scope}
theorem fT.at (sl:fT γ e T h h') (x:Exo h e∧Exo h T) {a:Addr} {o:Obj} (ha:h.get? a=some o) (no:(∀ vs,o.data≠.fields vs)∨o.cls=.type "range"): ∃ o',h'.get? a=some o'∧dU o o'∧(¬ γ.f a→o'=o):=by
 have key: ∀ b,Exo h b→a≠b:=fun b q z=>by
  subst z
  obtain ⟨⟨vs,q1⟩,q2⟩:=q o ha
  rcases no with n | n
  ·exact n vs q1
  ·exact q2 n
 exact sl.1 a o ha (key e x.1) (key T x.2)
theorem fT.same (sl:fT γ e T h h') (x:Exo h e∧Exo h T) {a:Addr} {o:Obj} (ha:h.get? a=some o) (no:(∀ vs,o.data≠.fields vs)∨o.cls=.type "range") (nd: ∀ es n,o.data≠.dict es n):h'.get? a=some o:=by
 obtain ⟨o',q1,q2,_⟩:=sl.at x ha no
 rw [q1,q2.same nd]
theorem Rel.slip2 (sl:fT γ e T h h') (x:Exo h e∧Exo h T):(∀ {v:V} {m:Value},Rel h ρ N v m→Rel h' ρ N v m)∧∀ {vs:List V} {ms:List Value},aI h ρ N vs ms→aI h' ρ N vs ms:=
 Rel.both .none .bool .int .str (fun ⟨o,ho,hc,n,hd⟩ hn hl r=>.tup ⟨o,sl.same x ho (.inl fun vs q=>by rw [hd] at q; cases q) (fun es n' q=>by rw [hd] at q; cases q),hc,n,hd⟩ hn hl r)
  (fun ⟨n,ho⟩ hn hl r=>.lst ⟨n,sl.same x ho (.inl fun vs q=>by cases q) (fun es n' q=>by cases q)⟩ hn hl r) (fun hr hn=>.rng (sl.same x hr (.inr rfl) (fun es n' q=>by cases q)) hn) (fun q=>.loc q) .nil .cons
theorem Rel.slip (sl:fT γ e T h h') (x:Exo h e∧Exo h T) {v:V} {m:Value} (r:Rel h ρ N v m):Rel h' ρ N v m:=(Rel.slip2 sl x).1 r
theorem Inv.slip (I:Inv C γ ρ H s) (nz:az H) (he:C.base.get? e=none) (hT:C.base.get? T=none) (x:Exo s.heap e∧Exo s.heap T) (sl:fT γ e T s.heap h'):Inv C γ ρ H { s with heap:=h' }:=by
 refine ⟨fun a o q=>?_,I.len,I.nodup,I.fresh,fun a q=>let ⟨o,z⟩:=I.there a q; sl.2 a o z,fun i a o h1 h2=>?_,I.apart,I.bor,fun a q=>let ⟨o,z⟩:=I.held a q; sl.2 a o z,I.off,fun a q=>?_,fun a q=>(I.hq nz a q).elim,I.hq,I.gens,I.os⟩
 ·obtain ⟨o',z1,z2,z3⟩:=sl.1 a o (I.base a o q) (fun z=>by rw [z,he] at q; cases q) fun z=>by rw [z,hT] at q; cases q
  rw [z1,z3 fun z=>by rw [I.off a (γ.fh a z)] at q; cases q]
 ·have ob:=I.obj i a o h1 h2
  have nf:o≠.dead→¬ γ.f a:=fun nd z=>nd (I.bor i a o h1 (I.apart a (List.mem_of_getElem? h1) (γ.fh a z)) h2)
  cases o with
  | list vs=>
   obtain ⟨ms,⟨n,q1⟩,q2,q3⟩:=ob
   exact ⟨ms,⟨n,sl.same x q1 (.inl fun vs q=>by cases q) fun es n q=>by cases q⟩,(Rel.slip2 sl x).2 q2,q3⟩
  | inst c=>exact absurd (List.mem_of_getElem? h2) (nz c)
  | obj j=>
   obtain ⟨q0,d,q1,q2⟩:=ob
   exact ⟨q0,d,q1,sl.same x q2 (.inl fun vs q=>by cases q) fun es n q=>by cases q⟩
  | attrs fs=>
   obtain ⟨es,n,q1,q2⟩:=ob
   obtain ⟨o',z1,_,z3⟩:=sl.at x q1 (.inl fun vs q=>by cases q)
   exact ⟨es,n,by rw [z1,z3 (nf HO.noConfusion)],q2.map fun _ _ r=>r.slip sl x⟩
  | dictS kvs=>
   obtain ⟨ms,q1,q2,q3⟩:=ob
   refine ⟨ms,dp q1 fun o ho=>?_,q2.map fun _ _ r=>r.slip sl x,q3⟩
   obtain ⟨o₀,es,ep,g1,_,g2,_⟩:=q1
   rw [g1] at ho; cases ho
   obtain ⟨o',z1,_,z3⟩:=sl.at x g1 (.inl fun vs q=>by rw [g2] at q; cases q)
   rw [z1,z3 (nf HO.noConfusion)]
  | dictI kvs=>
   obtain ⟨ms,q1,q2,q3⟩:=ob
   refine ⟨ms,dp q1 fun o ho=>?_,q2.map fun _ _ r=>r.slip sl x,q3⟩
   obtain ⟨o₀,es,ep,g1,_,g2,_⟩:=q1
   rw [g1] at ho; cases ho
   obtain ⟨o',z1,_,z3⟩:=sl.at x g1 (.inl fun vs q=>by rw [g2] at q; cases q)
   rw [z1,z3 (nf HO.noConfusion)]
  | dead=>trivial
 ·obtain ⟨o,es,n,z,d⟩:=I.frm a q
  obtain ⟨o',z1,z2,_⟩:=sl.at x z (.inl fun vs q=>by rw [d] at q; cases q)
  exact ⟨o',es,n,z1,z2.dict d⟩
theorem Fra.slip (F:Fra γ env st ρ s) (x:Exo s.heap e∧Exo s.heap T) (sl:fT γ e T s.heap h'):Fra γ env st ρ { s with heap:=h' }:=by
 obtain ⟨m,hm,hv⟩:=F.ns
 refine ⟨F.kind,F.glob,F.blt,F.nl,F.own,⟨m,aG hm fun o ho=>?_,fun y v k kz q=>?_⟩,fun n k=>?_,F.apart,F.nb,F.nbc⟩
 ·obtain ⟨o₀,es,ep,g1,g2,_⟩:=hm
  rw [g1] at ho; cases ho
  obtain ⟨o',z1,z2,_⟩:=sl.at x g1 (.inl fun vs q=>by rw [g2] at q; cases q)
  exact ⟨o',z1,z2⟩
 ·obtain ⟨mv,e1,e2⟩:=hv y v k kz q
  exact ⟨mv,e1,e2.slip sl x⟩
 ·obtain ⟨c,ov,h1,h2,⟨oc,hoc,hdc⟩,h4⟩:=F.cell n k
  refine ⟨c,ov,h1,h2,⟨oc,sl.same x hoc (.inl fun vs q=>by rw [hdc] at q; cases q) (fun es n q=>by rw [hdc] at q; cases q),hdc⟩,fun y hy v q=>?_⟩
  obtain ⟨mv,e1,e2⟩:=h4 y hy v q
  exact ⟨mv,e1,e2.slip sl x⟩
theorem cg.slip (S:cg W ρ H s ρ' H' s₁) (he:s.heap.get? e=none) (hT:s.heap.get? T=none) (sl:fT γ e T s₁.heap h'):cg W ρ H s ρ' H' { s₁ with heap:=h' }:=
 ⟨fun a o q n nw=>by
  obtain ⟨o',e1,al⟩:=S.keep a o q n nw
  obtain ⟨o'',e2,al2,_⟩:=sl.1 a o' e1 (fun z=>by rw [z,he] at q; cases q) fun z=>by rw [z,hT] at q; cases q
  exact ⟨o'',e2,al.trans al2⟩,S.live,S.pre⟩
theorem fE {a b:Addr} {o:HO} (hl:ρ.length=H.length) (ho:o.isLive=false) (q:Lv (ρ++[a]) (H++[o]) b):Lv ρ H b:=by
 obtain ⟨i,x,h1,h2,h3⟩:=q
 by_cases hi:i < H.length
 ·rw [List.getElem?_append_left (hl▸hi)] at h1
  rw [List.getElem?_append_left hi] at h2
  exact ⟨i,x,h1,h2,h3⟩
 ·rw [List.getElem?_append_right (Nat.le_of_not_lt hi)] at h2
  have:x=o:=by
   cases hk:i - H.length with
   | zero=>rw [hk] at h2; exact (Option.some.inj h2).symm
   | succ n=>rw [hk] at h2; cases h2
  rw [this,ho] at h3; cases h3
theorem cg.snoc {a:Addr} {o:HO} (S:cg W ρ H s ρ' H' s₁) (hl:ρ'.length=H'.length) (ho:o.isLive=false):cg W ρ H s (ρ'++[a]) (H'++[o]) s₁:=
 ⟨S.keep,fun b nw q=>S.live b nw (fE hl ho q),fun i b q=>by have:=S.pre i b q; rw [List.getElem?_append_left (List.getElem?_eq_some_iff.mp this).1]; exact this⟩
theorem cg.cut {n:Nat} (S:cg W ρ H s ρ' H' s₁) (hn:ρ.length≤n):cg W ρ H s (ρ'.take n) (H'.take n) s₁:=
 ⟨S.keep,fun b nw q=>S.live b nw (dt q),fun i a q=>by
  rw [List.getElem?_take,if_pos (by have:=(List.getElem?_eq_some_iff.mp q).1; exact li [i,n,_] [([3],[2]),([1,0],[3])] [1,0] [2] rfl hn this)]; exact S.pre i a q⟩
noncomputable def Ge (γ:Gh) (e:Addr):Gh:=⟨γ.h,γ.f,γ.fh,fun a=>a=e,γ.b,γ.bh⟩
theorem Inv.handle {c:String} {cls:Addr} {fl:Value} (I:Inv C γ ρ H s) (ne:e ∉ ρ) (nh: ¬ γ.h e) (nb:C.base.get? e=none) (x:fF s.heap e T cls fl) (hc:c∈C.exs∧C.mg c=some (.ref cls)):Inv C (Ge γ e) (ρ++[e]) (H++[.inst c]) s:=by
 obtain ⟨oe,vs,oT,ts,h1,⟨h2,h3,h4⟩,⟨_,h5⟩,_⟩:=x
 have kp:cG s.heap ρ (Nl γ ρ H) s.heap (ρ++[e]) (Nl (Ge γ e) (ρ++[e]) (H++[.inst c])):=⟨fun _ o q _=>⟨o,q,.refl o⟩,fun b q=>.inl (q.imp (fE I.len rfl) id),fun i b q=>by rw [List.getElem?_append_left (List.getElem?_eq_some_iff.mp q).1]; exact q⟩
 have cs: ∀ {i:Nat} {a:Addr} {o:HO},(ρ++[e])[i]?= some a→(H++[.inst c])[i]?= some o→(ρ[i]?= some a∧H[i]?= some o)∨(a=e∧o=.inst c):=fun {i a o} q1 q2=>by
  by_cases hi:i < H.length
  ·rw [List.getElem?_append_left (I.len▸hi)] at q1
   rw [List.getElem?_append_left hi] at q2
   exact .inl ⟨q1,q2⟩
  ·rw [List.getElem?_append_right (by rw [I.len]; exact Nat.le_of_not_lt hi),I.len] at q1
   rw [List.getElem?_append_right (Nat.le_of_not_lt hi)] at q2
   cases hk:i - H.length with
   | zero=>rw [hk] at q1 q2; cases q1; cases q2; exact .inr ⟨rfl,rfl⟩
   | succ n=>rw [hk] at q1; cases q1
 have mem: ∀ {a:Addr},a∈ρ++[e]→a∈ρ∨a=e:=fun q=>(List.mem_append.mp q).imp id List.mem_singleton.mp
 refine ⟨I.base,by simp [I.len],List.nodup_append.mpr ⟨I.nodup,by simp,fun x hx y hy q=>ne (by rw [List.mem_singleton.mp hy] at q; exact q▸hx)⟩,fun a q=>(mem q).elim (I.fresh a) fun z=>z▸nb,fun a q=>(mem q).elim (I.there a) fun z=>z▸⟨oe,h1⟩,fun i a o q1 q2=>?_,fun a q z=>(mem q).elim (fun q=>I.apart a q z) fun q=>absurd (q▸z) nh,fun i a o q1 z q2=>?_,I.held,I.off,I.frm,fun a q=>?_,fun z=>absurd (List.mem_append.mpr (.inr List.mem_cons_self)) (z c),I.gens,I.os⟩
 ·rcases cs q1 q2 with ⟨q1,q2⟩ | ⟨rfl,rfl⟩
  ·exact (I.obj i a o q1 q2).kept kp fun _ q=>q
  ·exact ⟨hc.1,oe,cls,vs,h1,hc.2,h2,h3,h4⟩
 ·rcases cs q1 q2 with ⟨q1,q2⟩ | ⟨rfl,rfl⟩
  ·exact I.bor i a o q1 z q2
  ·exact absurd (γ.bh _ z) nh
 ·obtain rfl:a=e:=q
  exact ⟨⟨oe,vs,h1,h4,h5⟩,fun z=>by obtain ⟨i,o,z1,_⟩:=fE I.len rfl z; exact ne (List.mem_of_getElem? z1),nh⟩
theorem Fra.handle {c:String} (F:Fra γ env st ρ s) (hl:ρ.length=st.H.length):Fra (Ge γ e) env ⟨st.s,st.H++[.inst c]⟩ (ρ++[e]) s:=by
 have kp:cG s.heap ρ (Nl γ ρ st.H) s.heap (ρ++[e]) (Nl (Ge γ e) (ρ++[e]) (st.H++[.inst c])):=⟨fun _ o q _=>⟨o,q,.refl o⟩,fun b q=>.inl (q.imp (fE hl rfl) id),fun i b q=>by rw [List.getElem?_append_left (List.getElem?_eq_some_iff.mp q).1]; exact q⟩
 obtain ⟨m,hm,hv⟩:=F.ns
 refine ⟨F.kind,F.glob,F.blt,fun z=>F.nl (fE hl rfl z),F.own,⟨m,hm,fun y v k kz q=>let ⟨mv,e1,e2⟩:=hv y v k kz q; ⟨mv,e1,e2.kept kp⟩⟩,fun n k=>?_,F.apart,F.nb,F.nbc⟩
 obtain ⟨c',ov,h1,h2,h3,h4⟩:=F.cell n k
 exact ⟨c',ov,h1,⟨fun z=>h2.1 (fE hl rfl z),h2.2⟩,h3,fun y hy v q=>let ⟨mv,e1,e2⟩:=h4 y hy v q; ⟨mv,e1,e2.kept kp⟩⟩
theorem qX {n:Nat} {y:String} {v:V} (h:(st.cut n).s y=some v):st.s y=some v∧low n v:=by
 obtain ⟨u,h1,h2⟩:=Option.bind_eq_some_iff.mp h
 by_cases q:low n u
 ·rw [if_pos q] at h2; cases h2; exact ⟨h1,q⟩
 ·rw [if_neg q] at h2; cases h2
theorem Fra.cut {n:Nat} (F:Fra (Ge γ e) env st ρ s):Fra γ env (st.cut n) (ρ.take n) s:=by
 have cN: ∀ a,Nl γ (ρ.take n) (st.H.take n) a→Nl (Ge γ e) ρ st.H a:=fun a q=>q.imp dt id
 obtain ⟨m,hm,hv⟩:=F.ns
 refine ⟨F.kind,F.glob,F.blt,fun z=>F.nl (dt z),F.own,⟨m,hm,fun x v k kz q=>?_⟩,fun y k=>?_,F.apart,F.nb,F.nbc⟩
 ·obtain ⟨q1,q2⟩:=qX q
  obtain ⟨mv,e1,e2⟩:=hv x v k kz q1
  exact ⟨mv,e1,e2.cut cN q2⟩
 ·obtain ⟨c,ov,h1,h2,h3,h4⟩:=F.cell y k
  refine ⟨c,ov,h1,⟨fun z=>h2.1 (dt z),h2.2⟩,h3,fun z hz v q=>?_⟩
  obtain ⟨q1,q2⟩:=qX q
  obtain ⟨mv,e1,e2⟩:=h4 z hz v q1
  exact ⟨mv,e1,e2.cut cN q2⟩
theorem bK.mark (hr:bK k A γ):bK k (A.mark (some (.ref e))) (Ge γ e):=⟨hr.depth,hr.units,fun v q=>⟨e,(Option.some.inj q).symm,rfl⟩,hr.frs⟩
theorem Top.mark (h:Top A env) {v:Option Value}:Top (A.mark v) env:=h
theorem rW {c:String} {m:List Nat} {arg:Expr} {np cpos pos:Pos} (hk:bD sc c=true) (hc:c∈C.exs) (hes:SEs C k sc (.cons (.str m) .nil) [arg]):SS C k sc (.raise c) (.Raise (some (.Call (.Name (c:Str) np) [arg] [] cpos)) none pos):=by
 intro env A s γ ρ st Q X hs hr ht I F w
 obtain ⟨cls,⟨hb,bm,N,nm,q,bs,hdct,sn,sub,ab,col,dd,k0,k1,k2,k3,k5,mN,hC,hN,hni,T⟩,_⟩:=C.hexs c hc
 rw [← hs] at hk
 simp only [bD,Bool.and_eq_true,beq_iff_eq,Bool.not_eq_true',kd] at hk
 refine wpAny_Raise_call_subT (C:=cls) (N:=N) (nm:=nm) (q:=q) (bs:=bs) (bm:=bm) (hdct:=hdct) (sn:=sn) (sub:=sub) (ab:=ab) (col:=col) (dd:=dd) (k0:=k0) (k1:=k1) (k2:=k2) (k3:=k3) (k5:=k5) PySem.F.excBase_ValueError (T.hasType rfl) (hr.handled I w.1) (dj hes.1) hni ?_
 refine Calls.Name_function_global F.kind hk.1 (Calls.loadGlobal_global (mg:=C.mg) (by rw [F.glob]; exact C.g.keeps I.base) hb ⟨rfl,?_⟩) hk.2
 refine wpAny_mono (bR (X:=fun _ _=>False) hes hs hr (At.start I F) (W:=fun _ st'=>st'=st) (by exact rfl) fun ms s₁ vs st₁ ρ₁ hn w₁ r₁ a₁ S₁=>?_) (fun _ _ x=>x) fun _ _ p=>?_
 ·subst w₁
  have kp: ∀ b o,C.base.get? b=some o→s₁.heap.get? b=some o:=a₁.inv.base
  refine ⟨rfl,?_,kp _ _ hC,hN.keeps kp,T.keeps kp,fun h' e hme=>?_⟩
  ·rw [hn]; show 1≤sizeLine; decide
  obtain ⟨t,ht,_,_⟩:=hme.there
  have S2:Stp ρ₁ st₁.H s₁ ρ₁ st₁.H { s₁ with heap:=h' }:=Stp.of_keep hme.keeps
  exact ⟨c,st₁,ρ₁,w.2,.inl (.inr ⟨e,cls,t,rfl,⟨hc,hb⟩,a₁.stp.back a₁.inv e hme.new,ht⟩),a₁.inv.of_keep hme.keeps rfl rfl,a₁.fra.step S2 rfl,(a₁.stp.trans S2).w⟩
 ·obtain ⟨_,_,_,z,_⟩:=p; exact z.elim
theorem pq {ev:Value} {c c':String} {np hp:Pos} {nm:Option Str} {body:List Stmt} {Qf:PySem.Flow→Shared→Prop} {Ex:Value→Shared→Prop} {st':St} (hr:bK (2*k+1) A γ) (ht:Top A env) (I:Inv C γ ρ st.H s) (I1:Inv C γ ρ' st'.H s₁) (F1:Fra γ env st' ρ' s₁) (S1:cg (Own env) ρ st.H s ρ' st'.H s₁)
  (x:wD C env s.heap s₁ ev c') (nz:az st'.H) (hc:c∈C.exs) (hk:bD env.scope c=true) (hcat:bp c c'=true)
  (suite: ∀ e T cls s₂,s.heap.get? e=none→s.heap.get? T=none→(c'∈C.exs∧C.mg c'=some (.ref cls))→fF s₂.heap e T cls .none→Inv C γ ρ' st'.H s₂→Fra γ env st' ρ' s₂→cg (Own env) ρ st.H s ρ' st'.H s₂→
   codeAny C.M (A.mark (some (.ref e))) (.handlers (.ref e) [.ExceptHandler none nm body hp] env) (fun r s₂=>match r with
     | .ok f=>(match (generalizing:=false) nm with
      | none=>Qf f s₂
      | some n=>wpAny C.M A (do bindName env n .none; unbindBehindTheSuite env n hp) (fun _ s₃=>Qf f s₃) Ex s₂)
     | .error x=>cameBackBy C.M A env Ex x s₂) s₂):
  wpAny C.M A (noteFrame ev env) (fun _ s₂=>wpAny C.M A (setFlight ev none) (fun _ s₃=>wpAny C.M A (handleBy ev env [.ExceptHandler (some (.Name (c:Str) np)) nm body hp]) Qf Ex s₃) Ex s₂) Ex s₁:=by
 obtain ⟨l,hfr⟩:=ht
 obtain ⟨l',hfr',hl⟩:=hr.frs
 rw [hfr] at hfr'; cases hfr'
 obtain ⟨_,L,hL,_⟩:=hl env List.mem_cons_self
 refine yH hfr hL hl I1.frm (fun a o q=>?_) x fun h' e T hev he hT xo sl x'=>?_
 ·cases z:s₁.heap.get? a with
  | some o'=>exact ⟨o',rfl⟩
  | none=>have:=S1.back I1 F1 a z; rw [q] at this; cases this
 subst hev
 have nbe:=I.none_above he
 have nbT:=I.none_above hT
 have I2:=I1.slip nz nbe nbT xo sl
 have F2:=F1.slip xo sl
 have S2:=S1.slip he hT sl
 obtain ⟨e',cls,T',rfl',hc',_,hT',xa⟩:=x'
 cases rfl'
 obtain ⟨clsH,⟨⟨hmH,_⟩,_⟩⟩:=C.hexs c hc
 refine wpAny_handleBy_cons (codeAny_handlers_test (eO (st:=st') I2 F2 hmH hk ?_)) (by intro q; cases q)
 obtain ⟨cls',⟨⟨h0,_⟩,K,hK,_,_,h3⟩⟩:=C.hexs c' hc'.1
 have h0:C.mg (c':Str)=some (.ref cls'):=h0
 rw [hc'.2] at h0; cases h0
 obtain ⟨z,z1,_,z3⟩:=h3 c hc
 rw [show C.mg (c:Str)=some (.ref clsH) from hmH] at z1; cases z1
 have xa':=xa
 obtain ⟨oe,vs,oT,ts,q1,⟨q2,q3,q4⟩,_⟩:=xa
 have inst:PySem.W.InstAt h' e oe cls none:=⟨q1,q2,by unfold PySem.W.notCls; rw [q4],by rw [q3]; trivial⟩
 exact lV (s:={ s₁ with heap:=h' }) (fun a o q=>I2.base a o (hK a o q)) inst (z3 hcat) (suite e T' cls _ he hT' hc' xa' I2 F2 S2)
theorem tn {e:Addr} {st':St} (I:Inv C γ ρ st.H s) (I1:Inv C γ ρ' st'.H s₁) (S1:cg W ρ st.H s ρ' st'.H s₁) (hl:st'.H.length=st.H.length) (he:s.heap.get? e=none):e ∉ ρ':=fun q=>by
 obtain ⟨i,hi⟩:=List.mem_iff_getElem?.mp q
 have lt:i < ρ.length:=by rw [I.len,← hl,← I1.len]; exact (List.getElem?_eq_some_iff.mp hi).1
 have h1:=S1.pre i _ (List.getElem?_eq_getElem lt)
 rw [hi] at h1
 obtain ⟨o,ho⟩:=I.there _ (List.getElem_mem lt)
 rw [← Option.some.inj h1,he] at ho; cases ho
theorem bJ.cut {h:Heap} {N N':Addr→Prop} {n:Nat} {f:Flow} {fl:PySem.Flow} (hN: ∀ a,N' a→N a) (r:bJ h ρ N f fl) (l:Ar n f):bJ h (ρ.take n) N' f fl:=by
 cases r with
 | next=>exact .next
 | brk=>exact .brk
 | cont=>exact .cont
 | ret r=>exact .ret (r.cut hN l)
theorem pz {e:Addr} {Q:Flow→St→Prop} {f:Flow} {fl:PySem.Flow} {st4:St} {ρ4:List Addr} {s4:Shared} (I:Inv C γ ρ st.H s) (nz0:az st.H) (lo:st4.H.take st.H.length=st.H) (lf:Ar st.H.length f) (hQ:Q f (st4.cut st.H.length))
  (hfl:bJ s4.heap ρ4 (Nl (Ge γ e) ρ4 st4.H) f fl) (I4:Inv C (Ge γ e) ρ4 st4.H s4) (F4:Fra (Ge γ e) env st4 ρ4 s4) (S4:cg (Own env) ρ st.H s ρ4 st4.H s4):dQ C γ env ρ st s Q fl s4:=by
 have hq:=I.hq nz0
 have I5:Inv C γ ρ4 st4.H s4:=I4.drop (fun _ q=>q) (fun _ q=>q) (fun b q=>absurd q (hq b)) fun _=>Iff.rfl
 refine ⟨f,st4.cut st.H.length,ρ4.take st.H.length,hQ,hfl.cut (fun a q=>q.imp dt id) lf,I5.cut (fun _=>hq) fun i o hi ho=>I.lowO (i:=i) (by rw [← lo,List.getElem?_take,if_pos hi]; exact ho),F4.cut,S4.cut (by rw [I.len]; exact Nat.le_refl _)⟩
theorem xq {b h:Ss} {c:String} {pb ph:List Stmt} {np hp pos:Pos} (hk:bD sc c=true) (hc:c∈C.exs) (hne:ph≠[]) (hb:SSs C k sc b pb) (hh:SSs C k sc h ph):SS C k sc (.try_ b c none h) (.Try pb [.ExceptHandler (some (.Name (c:Str) np)) none ph hp] [] [] pos):=by
 intro env A s γ ρ st Q X hs hr ht I F w
 obtain ⟨nz0,w⟩:=w
 refine wpAny_Try_except (wpAny_mono (hb env A s γ ρ st _ _ hs hr ht I F w) (fun fl s₁ p=>?_) fun ev s₁ p=>?_)
 ·obtain ⟨f,st',ρ',h1,h2,h3,h4,h5⟩:=p
  cases h2 with
  | next=>exact wpAny_execs_nil ⟨_,st',ρ',h1,.next,h3,h4,h5⟩
  | brk=>exact ⟨_,st',ρ',h1,.brk,h3,h4,h5⟩
  | cont=>exact ⟨_,st',ρ',h1,.cont,h3,h4,h5⟩
  | ret r=>exact ⟨_,st',ρ',h1,.ret r,h3,h4,h5⟩
 ·obtain ⟨c',st',ρ',⟨⟨hlen,nz,hcat⟩,w'⟩,hx,I1,F1,S1⟩:=p
  cases ph with
  | nil=>exact absurd rfl hne
  | cons b0 bs=>
   refine pq hr ht I I1 F1 S1 hx nz hc (hs▸hk) hcat fun e T cls s₂ he hT hcc xa I2 F2 S2=>?_
   refine codeAny_handlers_suite (ef (γ:=γ) xa fun h₃ sl x3=>?_)
   have I3:=I2.slip nz (I.none_above he) (I.none_above hT) xa.exo sl
   have F3:=F2.slip xa.exo sl
   have S3:=S2.slip he hT sl
   have I4:=I3.handle (tn I I1 S1 hlen he) (I.ghost_new he) (I.none_above he) x3 hcc
   have F4:=F3.handle (e:=e) (c:=c') I3.len
   have S4:=S3.snoc (a:=e) (o:=.inst c') I3.len rfl
   refine wpAny_mono (hh env (A.mark (some (.ref e))) _ (Ge γ e) (ρ'++[e]) ⟨st'.s,st'.H++[HO.inst c']⟩ _ _ hs hr.mark ht.mark I4 F4 w') (fun fl s₅ p=>?_) fun _ _ p=>p.none
   obtain ⟨f',st5,ρ5,⟨lf,lo,hQ⟩,hfl,I5,F5,S5⟩:=p
   exact pz I nz0 lo lf hQ hfl I5 F5 (S4.trans S5)
theorem rV {b h:Ss} {c y:String} {pb ph:List Stmt} {np hp pos:Pos} (hl:kd sc y=some .local) (hk:bD sc c=true) (hc:c∈C.exs) (hne:ph≠[]) (hb:SSs C k sc b pb) (hh:SSs C k sc h ph):SS C k sc (.try_ b c (some y) h) (.Try pb [.ExceptHandler (some (.Name (c:Str) np)) (some (y:Str)) ph hp] [] [] pos):=by
 intro env A s γ ρ st Q X hs hr ht I F w
 obtain ⟨nz0,w⟩:=w
 rw [← hs] at hl
 refine wpAny_Try_except (wpAny_mono (hb env A s γ ρ st _ _ hs hr ht I F w) (fun fl s₁ p=>?_) fun ev s₁ p=>?_)
 ·obtain ⟨f,st',ρ',h1,h2,h3,h4,h5⟩:=p
  cases h2 with
  | next=>exact wpAny_execs_nil ⟨_,st',ρ',h1,.next,h3,h4,h5⟩
  | brk=>exact ⟨_,st',ρ',h1,.brk,h3,h4,h5⟩
  | cont=>exact ⟨_,st',ρ',h1,.cont,h3,h4,h5⟩
  | ret r=>exact ⟨_,st',ρ',h1,.ret r,h3,h4,h5⟩
 ·obtain ⟨c',st',ρ',⟨⟨hlen,nz,hcat⟩,w'⟩,hx,I1,F1,S1⟩:=p
  cases ph with
  | nil=>exact absurd rfl hne
  | cons b0 bs=>
   refine pq hr ht I I1 F1 S1 hx nz hc (hs▸hk) hcat fun e T cls s₂ he hT hcc xa I2 F2 S2=>?_
   refine codeAny_handlers_suite_as (ef (γ:=γ) xa fun h₃ sl x3=>?_)
   have I3:=I2.slip nz (I.none_above he) (I.none_above hT) xa.exo sl
   have F3:=F2.slip xa.exo sl
   have S3:=S2.slip he hT sl
   have I4:=I3.handle (tn I I1 S1 hlen he) (I.ghost_new he) (I.none_above he) x3 hcc
   have F4:=F3.handle (e:=e) (c:=c') I3.len
   have S4:=S3.snoc (a:=e) (o:=.inst c') I3.len rfl
   refine wpAny_mono (ec (v:=.loc st'.H.length) (.inl hl) (st:=⟨st'.s,st'.H++[HO.inst c']⟩) I4 F4 (.loc (by rw [← I1.len]; simp))) (fun _ s₅ p5=>?_) fun _ _ z=>z
   obtain ⟨I5,F5,S5⟩:=p5
   refine wpAny_mono (hh env (A.mark (some (.ref e))) s₅ (Ge γ e) (ρ'++[e]) ((St.mk st'.s (st'.H++[HO.inst c'])).set y (.loc st'.H.length)) _ _ hs hr.mark ht.mark I5 F5 w') (fun fl s₆ p=>?_) fun _ _ p=>p.none
   obtain ⟨f',st6,ρ6,⟨lf,lo,hQ⟩,hfl,I6,F6,S6⟩:=p
   obtain ⟨m,hm,hv⟩:=F6.ns
   refine wpAny_nameGoes_keeps hl hm F6.cls_false fun h' v hn' hs'=>?_
   have k1: ∀ b o,b≠env.locals→s₆.heap.get? b=some o→h'.get? b=some o:=fun b o hb e=>hs'.extBut b o hb e
   have K:=bB (s:=s₆) (s':={ s₆ with heap:=h',toks:=s₆.toks+1 }) (ρ:=ρ6) (H:=st6.H) F6.own k1
   have I7:Inv C (Ge γ e) ρ6 st6.H { s₆ with heap:=h',toks:=s₆.toks+1 }:=I6.touch F6.own F6.nb (fun _=>dS hn') k1 (bT hn') rfl rfl
   have F7:Fra (Ge γ e) env (st6.unset y) ρ6 { s₆ with heap:=h',toks:=s₆.toks+1 }:=by
    refine ⟨F6.kind,F6.glob,F6.blt,F6.nl,F6.own,⟨_,hn',fun z w ky kz q=>?_⟩,fun n kn=>?_,F6.apart,F6.nb,F6.nbc⟩
    ·by_cases hz:z=y
     ·subst hz; simp [St.unset] at q
     ·have e':(z:Str)≠(y:Str):=fun q=>hz (eu q)
      simp only [St.unset,if_neg hz] at q
      obtain ⟨mw,e1,e2⟩:=hv z w ky kz q
      exact ⟨mw,by simp [e',e1],e2.kept K⟩
    ·obtain ⟨c,ov,h1,h2,⟨o,ho,hd⟩,h4⟩:=F6.cell n kn
     refine ⟨c,ov,h1,h2,⟨o,k1 _ _ (F6.cell_ne kn h1) ho,hd⟩,fun z hz w q=>?_⟩
     have hzy:z≠y:=fun q=>by subst q; rw [← hz] at kn; rcases kn with kn | kn<;>· rw [show env.kindOf (z:Str)=some .local from hl] at kn; cases kn
     simp only [St.unset,if_neg hzy] at q
     obtain ⟨mw,e1,e2⟩:=h4 z hz w q
     exact ⟨mw,e1,e2.kept K⟩
   have S7:cg (Own env) ρ st.H s ρ6 st6.H { s₆ with heap:=h',toks:=s₆.toks+1 }:=((S4.trans S5).trans S6).touch (.inl (.inl rfl)) k1
   have hfl7:bJ h' ρ6 (Nl (Ge γ e) ρ6 st6.H) f' fl:=by
    cases hfl with
    | next=>exact .next
    | brk=>exact .brk
    | cont=>exact .cont
    | ret r=>exact .ret (r.kept K)
   exact pz (st4:=st6.unset y) I nz0 lo lf hQ hfl7 I7 F7 S7
end
end
noncomputable section
open PySem PyProof.Rows PySem.W
section
variable {C:Cx} {k:Nat} {sc:Scope} {γ γ':Gh} {env:Env} {A:Around} {ρ₁:List Addr} {st₁:St} {s₁:Shared} {ρ ρ':List Addr} {st st':St} {s s':Shared} {Q:Flow→St→Prop} {X:String→St→Prop} {i:Nat} {a:Addr} {vs:List V}
noncomputable def fC (C:Cx) (γ:Gh) (env:Env) (ρ:List Addr) (st:St) (s:Shared) (X:String→St→Prop) (ev:Value) (s':Shared):Prop:=
 ∃ c st' ρ',xN X c st'∧rD C env s.heap s' ev c∧Inv C γ ρ' st'.H s'∧Fra γ env st' ρ' s'∧cg (Own env) ρ st.H s ρ' st'.H s'
theorem fC.step {ev:Value} (I:Inv C γ ρ' st'.H s') (F:Fra γ env st' ρ' s') (S:cg (Own env) ρ st.H s ρ' st'.H s') {s'':Shared} (p:fC C γ env ρ' st' s' X ev s''):fC C γ env ρ st s X ev s'':=by
 obtain ⟨c,st'',ρ'',h1,h2,h3,h4,h5⟩:=p
 exact ⟨c,st'',ρ'',h1,h2.back (S.back I F),h3,h4,S.trans h5⟩
theorem sA {ev:Value} {s'':Shared} {R:Value→Shared→Prop} {M:Model} (hr:bK (2*k+1) A γ') (ht:Top A env) (p:bN C γ' env ρ' st' s' (xN X) ev s'') (hs: ∀ b,γ.h b→γ'.h b) (hf: ∀ b,γ.f b→γ'.f b) (he: ∀ b,γ.e b→γ'.e b) (hb: ∀ b,γ.b b ↔ γ'.b b) (I₁:Inv C γ ρ₁ st₁.H s₁) (F₁:Fra γ env st₁ ρ₁ s₁) (I:Inv C γ' ρ' st'.H s') (F:Fra γ' env st' ρ' s') (S:cg (Own env) ρ₁ st₁.H s₁ ρ' st'.H s')
  (h: ∀ s₅,fC C γ env ρ₁ st₁ s₁ X ev s₅→R ev s₅):notedBy M A env R ev s'':=by
 obtain ⟨c,st4,ρ4,⟨nz,h1⟩,h2,h3,h4,h5⟩:=p
 obtain ⟨l,hfr⟩:=ht
 obtain ⟨l',hfr',hl⟩:=hr.frs
 rw [hfr] at hfr'; cases hfr'
 obtain ⟨_,L,hL,_⟩:=hl env List.mem_cons_self
 have S4:=S.trans h5
 refine mT hfr hL hl h3.frm (fun a o q=>?_) (h2.back (S.back I F)) fun h' e T T' cls hev hc he' hT hT' xo sl hn xa=>?_
 ·cases z:s''.heap.get? a with
  | some o'=>exact ⟨o',rfl⟩
  | none=>have:=S4.back h3 h4 a z; rw [q] at this; cases this
 have I5:=h3.slip nz (I₁.none_above he') (I₁.none_above hT) xo sl
 have F5:=h4.slip xo sl
 have Kl:=cW (γ:=γ) (γ':=γ') (s:={ s'' with heap:=h' }) (ρ:=ρ4) (H:=st4.H) hs
 exact h _ ⟨c,st4,ρ4,⟨nz,h1⟩,⟨e,cls,T',L,hev,hc,he',hT',hL,xa⟩,I5.drop hs hf he hb,F5.re F₁ Kl rfl (fun b o _ e=>⟨o,e,.refl o⟩) (fun b q=>I5.ghost_nl (hs b q)),S4.slip he' hT sl⟩
theorem rc {ev:Value} (I:Inv C γ ρ st.H s) (p:fC C γ env ρ st s X ev s'):cameBackBy C.M A env (bN C γ env ρ st s X) ev s':=by
 obtain ⟨c,st4,ρ4,⟨nz,h1⟩,⟨e,cls,T,L,rfl,hc,he,hT,hL,x⟩,h3,h4,h5⟩:=p
 have xo:=x.exo
 have x2:=x
 obtain ⟨oe,vs,oT,ts,q1,⟨_,_,q2⟩,⟨q3,_⟩,_⟩:=x2
 unfold cameBackBy
 refine wpAny_bind (wpAny_field q1 q2 q3 ?_)
 rw [if_neg (show ¬ ((Value.ref T == Value.none)=true) from fun z=>by cases beq_iff_eq.mp z)]
 rw [hL]
 refine ef (γ:=γ) (fr:=some L) x fun h' sl x'=>?_
 exact ⟨c,st4,ρ4,h1,.inr ⟨e,cls,T,L,rfl,hc,he,hT,hL,x'⟩,h3.slip nz (I.none_above he) (I.none_above hT) xo sl,h4.slip xo sl,h5.slip he hT sl⟩
theorem qI {x:String} {b:Ss} {pb:List Stmt} {py:Pos} {items:List V} {R:Result→Shared→Prop} (hb:SSs C k sc b pb) (hs:env.scope=sc) (hk:kd env.scope x=some .local∨kd env.scope x=some .cell) (hr:bK (2*k+1) A γ) (ht:Top A env) (I₁:Inv C γ ρ₁ st₁.H s₁) (F₁:Fra γ env st₁ ρ₁ s₁)
  {itv:Value} {s₂:Shared} (h:fe False C A (Off γ ρ₁ st₁.H) (Nl γ ρ₁ st₁.H) ρ₁ s₁ items itv s₂) (w₁:rN (fun v st Q=>wSs (Calls C k) C.glo b (st.set x v) Q (xN X)) items st₁ Q)
  (hR: ∀ f s',dQ C γ env ρ₁ st₁ s₁ Q f s'→R (.ok f) s') (hE: ∀ ev s',fC C γ env ρ₁ st₁ s₁ X ev s'→R (.error ev) s'):codeAny C.M A (.forLoop (.Name (x:Str) py) itv pb [] env) R s₂:=by
 obtain ⟨J,fp,P,St',rfl,dJ,g,hst,itr⟩:=h
 have W:=itr.walks
 have gJ: ¬ γ.h J:=I₁.ghost_new dJ
 have nO: ¬ Own env J:=fun q=>gJ (F₁.own_ghost q)
 have stk: ∀ {i:Nat} {ρ ρ':List Addr} {st st':St} {s s':Shared},Inv C (dT γ J) ρ st.H s→cg (Own env) ρ₁ st₁.H s₁ ρ st.H s→cg (Own env) ρ st.H s ρ' st'.H s'→St' i s.heap→St' i s'.heap:=fun {i ρ ρ' st st' s s'} I S S' q=>by
  refine W.frame _ _ _ q fun y hy o e=>?_
  rcases itr.fp y hy with rfl | ⟨hn,o₁,h1,h2⟩ | ⟨hK,_⟩
  ·obtain ⟨o',e',hd⟩:=itr.has _ _ q
   rw [e] at e'; cases e'
   exact S'.same e (I.ghost_nl (.inr rfl)) nO hd
  ·have hl: ¬ Lv ρ₁ st₁.H y:=fun z=>hn (.inl z)
   have no: ¬ Own env y:=fun z=>hn (.inr ⟨F₁.own_ghost z,F₁.own_nb z⟩)
   have e1:=S.same h1 hl no h2
   rw [e] at e1; cases e1
   exact S'.same e (S.notLive h1 hl no) no h2
  ·exact hK.elim
 have keptf: ∀ {ρ:List Addr} {st:St} {s:Shared},cg (Own env) ρ₁ st₁.H s₁ ρ st.H s→Inv C (dT γ J) ρ st.H s→cG s₁.heap ρ₁ (Nl γ ρ₁ st₁.H) s.heap ρ (Nl (dT γ J) ρ st.H):=fun S I=>
  ⟨fun a o e n=>S.keep a o e (fun q=>n (.inl q)) fun q=>n (.inr (F₁.own_ghost q)),fun a q=>by
   rcases q with q | q | q
   ·by_cases ho:Own env a
    ·exact .inl (.inr (F₁.own_ghost ho))
    ·exact (S.live a ho q).imp .inl id
   ·exact .inl (.inr q)
   ·exact .inr (q▸dJ),S.pre⟩
 have eJ: ∃ o,s₂.heap.get? J=some o:=let ⟨o,e,_⟩:=itr.has _ _ hst; ⟨o,e⟩
 have I2:Inv C (dT γ J) ρ₁ st₁.H s₂:=I₁.hold g dJ eJ
 have F2:Fra (dT γ J) env st₁ ρ₁ s₂:=F₁.hold I₁ g dJ
 refine codeAny_forLoop (fun n s'=>∃ i ρ' st',n=items.length+1 - i∧i≤items.length∧Inv C (dT γ J) ρ' st'.H s'∧Fra (dT γ J) env st' ρ' s'∧cg (Own env) ρ₁ st₁.H s₁ ρ' st'.H s'∧St' i s'.heap∧
  rN (fun v st Q=>wSs (Calls C k) C.glo b (st.set x v) Q (xN X)) (items.drop i) st' Q) ?_ (items.length+1) ⟨0,ρ₁,st₁,rfl,Nat.zero_le _,I2,F2,g.stp.w,hst,w₁⟩ (by intro _; rfl)
 rintro n s' ⟨i,ρ',st',rfl,hi,I',F',S',hst',w'⟩
 by_cases hlt:i < items.length
 ·have hdrop:items.drop i=items[i]::items.drop (i+1):=List.drop_eq_getElem_cons hlt
  rw [hdrop] at w'
  have hv:items[i]?= some items[i]:=List.getElem?_eq_getElem hlt
  generalize items[i]=v at w' hv
  have w':wSs (Calls C k) C.glo b (st'.set x v) (wa Q fun st'=>rN (fun v st Q=>wSs (Calls C k) C.glo b (st.set x v) Q (xN X)) (items.drop (i+1)) st' Q) (xN X):=w'
  refine W.item i _ _ _ hlt hst' fun mv h₁ tk₁ hPv hst₁ hk₁=>?_
  have k1: ∀ b o,b≠J→s'.heap.get? b=some o→h₁.get? b=some o:=fun b o hb e=>hk₁ b o (by simpa using hb) e
  have I1:Inv C (dT γ J) ρ' st'.H ({ s' with heap:=h₁,toks:=tk₁ }:Shared):=I'.touch (a:=J) (.inr rfl) (fun q=>gJ (γ.bh _ q)) (fun q=>(gJ (γ.fh _ q)).elim) k1 (let ⟨o,e,_⟩:=itr.has _ _ hst₁; ⟨o,e⟩) rfl rfl
  have F1:Fra (dT γ J) env st' ρ' ({ s' with heap:=h₁,toks:=tk₁ }:Shared):=F'.touch F₁ (.inr rfl) gJ k1
  have S1:cg (Own env) ρ₁ st₁.H s₁ ρ' st'.H ({ s' with heap:=h₁,toks:=tk₁ }:Shared):=S'.touch (.inr dJ) k1
  have rv:Rel h₁ ρ' (Nl (dT γ J) ρ' st'.H) v mv:=(itr.rel i v mv hv hPv).kept (keptf S1 I1)
  refine wpAny_assign_Name (wpAny_mono (ec hk I1 F1 rv) (fun _ s3 p=>?_) fun _ _ e=>e)
  obtain ⟨I3,F3,S3⟩:=p
  have hst3:St' (i+1) s3.heap:=stk I1 S1 S3 hst₁
  have S13:cg (Own env) ρ₁ st₁.H s₁ ρ' (st'.set x v).H s3:=S1.trans S3
  refine wpAny_mono (hb env A s3 (dT γ J) ρ' (st'.set x v) _ _ hs (hr.more (fun _ q=>q) fun _ q=>q) ht I3 F3 w') (fun fl s4 p=>?_) fun ev s4 p=>sA (γ:=γ) (γ':=dT γ J) (hr.more (fun _ q=>q) fun _ q=>q) ht p (fun _=>.inl) (fun _ q=>q) (fun _ q=>q) (fun _=>Iff.rfl) I₁ F₁ I3 F3 S13 fun s₅ p=>hE ev s₅ p
  obtain ⟨f,st4,ρ4,h1,h2,h3,h4,h5⟩:=p
  have hst4:St' (i+1) s4.heap:=stk I3 S13 h5 hst3
  have S14:=S13.trans h5
  have fin: ∀ {ff:Flow} {ffl:PySem.Flow},Q ff st4→bJ s4.heap ρ4 (Nl (dT γ J) ρ4 st4.H) ff ffl→dQ C γ env ρ₁ st₁ s₁ Q ffl s4:=fun q1 q2=>
   have Kl:=cW (γ:=γ) (γ':=dT γ J) (s:=s4) (ρ:=ρ4) (H:=st4.H) fun _=>.inl
   ⟨_,st4,ρ4,q1,q2.kept Kl,h3.drop (fun _=>.inl) (fun _ q=>q) (fun _ q=>q) (fun _=>Iff.rfl),h4.re F₁ Kl rfl (fun b o _ e=>⟨o,e,.refl o⟩) fun b q=>h3.ghost_nl (.inl q),S14⟩
  have go:rN (fun v st Q=>wSs (Calls C k) C.glo b (st.set x v) Q (xN X)) (items.drop (i+1)) st4 Q→∃ m,m < items.length+1 - i∧∃ i ρ' st',m=items.length+1 - i∧i≤items.length∧Inv C (dT γ J) ρ' st'.H s4∧Fra (dT γ J) env st' ρ' s4∧cg (Own env) ρ₁ st₁.H s₁ ρ' st'.H s4∧St' i s4.heap∧rN (fun v st Q=>wSs (Calls C k) C.glo b (st.set x v) Q (xN X)) (items.drop i) st' Q:=fun h=>
   ⟨_,Nat.sub_lt_sub_left (Nat.lt_succ_of_lt hlt) (Nat.lt_succ_self i),i+1,ρ4,st4,rfl,hlt,h3,h4,S14,hst4,h⟩
  rcases h1 with ⟨rfl,h1⟩ | ⟨rfl,h1⟩ | ⟨rfl,h1⟩ | ⟨v,rfl,h1⟩
  ·cases h2; exact go h1
  ·cases h2; exact go h1
  ·cases h2; exact hR _ _ (fin h1 .next)
  ·cases h2 with
   | ret r=>exact hR _ _ (fin h1 (.ret r))
 ·have hin:i=items.length:=Nat.le_antisymm hi (Nat.le_of_not_lt hlt)
  subst hin
  rw [List.drop_length] at w'
  refine W.done _ _ _ hst' fun h₁ tk₁ hk₁=>?_
  have k1: ∀ b o,b≠J→s'.heap.get? b=some o→h₁.get? b=some o:=fun b o hb e=>hk₁ b o (by simpa using hb) e
  refine wpAny_execs_nil (hR _ _ ⟨.next,st',ρ',w',.next,I'.lose (a:=J) (.inr rfl) (fun q=>gJ (γ.bh _ q)) (fun _=>Iff.rfl) (fun _=>.inl) (fun _ q=>q) (fun _ q=>q) gJ k1 rfl rfl,F'.lose F₁ (.inr rfl) (fun _=>.inl) gJ k1,S'.touch (.inr dJ) k1⟩)
theorem xu {x:String} {it:E} {b:Ss} {pit:Expr} {pb:List Stmt} {py p:Pos} (hk:jK sc x=true) (hset:bu pit=false) (hi:SE C k sc it pit) (hb:SSs C k sc b pb):SS C k sc (.for_ x it b) (.For (.Name (x:Str) py) pit pb [] p):=by
 rintro env A s γ ρ st Q X rfl hr ht I F w
 have hk:kd env.scope x=some .local∨kd env.scope x=some .cell:=(Bool.or_eq_true_iff.mp hk).imp beq_iff_eq.mp beq_iff_eq.mp
 refine wpAny_For (hi.stm rfl hr I F w fun mi s₁ vi st₁ ρ₁ w₁ r₁ I₁ F₁ S₁=>?_) (fun v=>cA hset v)
 rcases w₁ with ⟨items,e,w₁⟩ | w₁
 ·exact wpAny_mono (eK hr I₁ r₁ e) (fun itv s₂ h=>qI hb rfl hk hr ht I₁ F₁ h w₁ (fun f s' p=>p.step S₁.w) fun ev s' p=>rc I (p.step I₁ F₁ S₁.w)) fun _ _ x=>x
 ·exact w₁.elim
end
end
noncomputable section
open PySem PyProof.Rows
noncomputable def Bq (e:Expr):Option { x:Expr×List Comprehension×Scope×Pos // e=.ListComp x.1 x.2.1 x.2.2.1 x.2.2.2 }:=match e with
 | .ListComp a g c p=>some ⟨(a,g,c,p),rfl⟩
 | _=>none
noncomputable def ta (f:Stmt→S):List Stmt→Ss
 | []=>.nil
 | s::r=>.cons (f s) (ta f r)
noncomputable def Bz (N:Nm) (sc:Scope) (c:Expr→E) (c':Scope→Expr→E) (y:Str) (e:Expr):S:=(nm N.all y).elim .stuck fun x=>bif jK sc x.1 then
  (bif !dm e then .asg x.1 (c e) else (Bq e).elim .stuck fun z=>.asg x.1 (zh N sc c (c' z.1.2.2.1) z.1.1 z.1.2.1 z.1.2.2.1)) else .stuck
noncomputable def Cr (N:Nm) (sc:Scope) (c:Expr→E) (c':Scope→Expr→E) (ts:List Expr) (e:Expr):S:=(one ts).elim .stuck fun t=>
 (fQ t.1).elim ((Ch t.1).elim ((yV t.1).elim .stuck fun z=>(nm N.all z.1.2.1).elim .stuck fun x=>bif !dm e && N.ats.contains x.1 then .asgAttr (c z.1.1) x.1 (c e) else .stuck) fun z=>bif !dm e then .asgSub (c z.1.1) (c z.1.2.1) (c e) else .stuck) fun y=>Bz N sc c c' y.1.1 e
noncomputable def Br (e:Expr):Option { x:Expr×List Expr×List Keyword×Pos // e=.Call x.1 x.2.1 x.2.2.1 x.2.2.2 }:=match e with
 | .Call f es kw p=>some ⟨(f,es,kw,p),rfl⟩
 | _=>none
noncomputable def Bp (e:E):Option { m:List Nat // e=.str m }:=match e with
 | .str m=>some ⟨m,rfl⟩
 | _=>none
noncomputable def DI (h:ExceptHandler):Option { x:Expr×Option Str×List Stmt×Pos // h=.ExceptHandler (some x.1) x.2.1 x.2.2.1 x.2.2.2 }:=match h with
 | .ExceptHandler (some t) n b p=>some ⟨(t,n,b,p),rfl⟩
 | _=>none
noncomputable def tF (N:Nm) (sc:Scope) (c:Expr→E) (e:Expr):S:=(Br e).elim .stuck fun x=>(fQ x.1.1).elim .stuck fun y=>(nm N.all y.1.1).elim .stuck fun g=>(one x.1.2.1).elim .stuck fun a=>(Bp (c a.1)).elim .stuck fun _=>
 bif bD sc g.1 && N.exs.contains g.1 && aW a.1 && x.1.2.2.1.isEmpty then .raise g.1 else .stuck
noncomputable def Cj (N:Nm) (sc:Scope) (f:List Stmt→Ss) (b:List Stmt) (hs:List ExceptHandler) (o fi:List Stmt):S:=bif o.isEmpty && fi.isEmpty then (one hs).elim .stuck fun h=>(DI h.1).elim .stuck fun x=>(fQ x.1.1).elim .stuck fun y=>(nm N.all y.1.1).elim .stuck fun c=>
 bif bD sc c.1 && N.exs.contains c.1 && !x.1.2.2.1.isEmpty then x.1.2.1.elim (.try_ (f b) c.1 none (f x.1.2.2.1)) fun z=>(nm N.all z).elim .stuck fun v=>bif kd sc v.1 == some .local then .try_ (f b) c.1 (some v.1) (f x.1.2.2.1) else .stuck else .stuck else .stuck
noncomputable def Cp (N:Nm) (sc:Scope) (c:Expr→E) (b:Ss) (x it:Expr) (o:List Stmt):S:=(fQ x).elim .stuck fun y=>(nm N.all y.1.1).elim .stuck fun z=>bif o.isEmpty && jK sc z.1 && !bu it then .for_ z.1 (c it) b else .stuck
noncomputable def cS (N:Nm):Nat→Scope→Stmt→S
 | 0=>fun _ _=>.stuck
 | n+1=>fun sc ps=>match ps with
  | .Expr e _=>bif !dm e then .ex (cE N n sc e) else .stuck
  | .Assign ts e _=>Cr N sc (cE N n sc) (fun cs=>cE N n (cc cs sc)) ts e
  | .If c t f _=>.ite (cE N n sc c) (ta (cS N n sc) t) (ta (cS N n sc) f)
  | .While c b o _=>bif o.isEmpty then .whl (cE N n sc c) (ta (cS N n sc) b) else .stuck
  | .For x it b o _=>Cp N sc (cE N n sc) (ta (cS N n sc) b) x it o
  | .Return e _=>e.elim .stuck fun pe=>.ret (cE N n sc pe)
  | .Continue _=>.cont
  | .Pass _=>.pass
  | .Raise e f _=>bif f.isNone then e.elim .stuck fun pe=>tF N sc (cE N n sc) pe else .stuck
  | .Try b hs o fi _=>Cj N sc (ta (cS N n sc)) b hs o fi
  | _=>.stuck
noncomputable def cSs (N:Nm) (n:Nat) (sc:Scope) (pss:List Stmt):Ss:=ta (cS N n sc) pss
section
variable {C:Cx} {k:Nat} {sc:Scope} {ps:Stmt}
theorem bo {α β:Type} {P:β→Prop} {o:Option α} {g:α→β} {d:β} (h0:P d) (h: ∀ x,P (g x)):P (o.elim d g):=by
 cases o with
 | none=>exact h0
 | some x=>exact h x
theorem eS {β:Type} {P:β→Prop} {b:Bool} {e d:β} (h0:P d) (h:b=true→P e):P (bif b then e else d):=by
 cases b with
 | false=>exact h0
 | true=>exact h rfl
theorem ki {l:List String} {c c':Expr→E} {cs:Scope} (ih: ∀ pe,Snd C k sc (c pe) pe) (ih': ∀ pe,Snd C k (cc cs sc) (c' pe) pe) {y:String} (hy:jK sc y=true) {elt:Expr} {gs:List Comprehension} {py p sp:Pos}:
  SS C k sc (.asg y (zh (C.nm l) sc c c' elt gs cs)) (.Assign [.Name (y:Str) py] (.ListComp elt gs cs p) sp):=by
 have h0:SS C k sc (.asg y .stuck) (.Assign [.Name (y:Str) py] (.ListComp elt gs cs p) sp):=fun _ _ _ _ _ _ _ _ _ _ _ _ _ w=>False.elim w
 refine bo (P:=fun e=>SS C k sc (.asg y e) _) h0 fun g=>?_
 obtain ⟨⟨tg,it,ifs,asy⟩,rfl⟩:=g
 refine bo (P:=fun e=>SS C k sc (.asg y e) _) h0 fun z=>?_
 obtain ⟨⟨z,q⟩,hz⟩:=z
 have hz:tg=.Name z q:=hz
 subst hz
 refine bo (P:=fun e=>SS C k sc (.asg y e) _) h0 fun x=>?_
 obtain ⟨x,hx⟩:=x
 have hx:(x:Str)=z:=hx
 subst hx
 refine eS (P:=fun e=>SS C k sc (.asg y e) _) h0 fun h=>?_
 obtain ⟨h,h3⟩:=bz h
 obtain ⟨h1,h2⟩:=bz h
 have h3:asy=0:=beq_iff_eq.mp h3
 subst h3
 refine bo (P:=fun e=>SS C k sc (.asg y e) _) (eS (P:=fun e=>SS C k sc (.asg y e) _) h0 fun e=>?_) fun pc=>?_
 ·have e:ifs=[]:=List.isEmpty_iff.mp e
  subst e
  exact lD hy h1 (ot h2) (ih' elt).1 (ih it).1
 ·obtain ⟨pc,hp⟩:=pc
  have hp:ifs=[pc]:=hp
  subst hp
  exact jx hy h1 (ot h2) (ih' elt).1 (ih it).1 (ih' pc).2
theorem uw {l:List String} {c:Expr→E} {c':Scope→Expr→E} (ih: ∀ pe,Snd C k sc (c pe) pe) (ih': ∀ cs pe,Snd C k (cc cs sc) (c' cs pe) pe) {ts:List Expr} {e:Expr} {sp:Pos}:SS C k sc (Cr (C.nm l) sc c c' ts e) (.Assign ts e sp):=by
 refine bo (P:=fun x=>SS C k sc x _) av fun t=>?_
 obtain ⟨t,rfl⟩:=t
 refine bo (P:=fun x=>SS C k sc x _) (bo (P:=fun x=>SS C k sc x _) (bo (P:=fun x=>SS C k sc x _) av fun z=>bo (P:=fun x=>SS C k sc x _) av fun x=>eS (P:=fun x=>SS C k sc x _) av fun h=>?_) fun z=>eS (P:=fun x=>SS C k sc x _) av fun h=>?_) fun y=>?_
 ·obtain ⟨⟨a,y,q⟩,hz⟩:=z
  have hz:t=.Attribute a y q:=hz
  subst hz
  obtain ⟨x,hx⟩:=x
  have hx:(x:Str)=y:=hx
  subst hx
  exact og (List.contains_iff_mem.mp (bz h).2) (ot (bz h).1) (ih a).1 (ih e).1
 ·obtain ⟨⟨a,i,q⟩,hz⟩:=z
  have hz:t=.Subscript a i q:=hz
  subst hz
  exact pH (ot h) (ih a).1 (ih i).1 (ih e).1
 ·obtain ⟨⟨y,q⟩,hy⟩:=y
  have hy:t=.Name y q:=hy
  subst hy
  refine bo (P:=fun x=>SS C k sc x _) av fun x=>?_
  obtain ⟨x,hx⟩:=x
  have hx:(x:Str)=y:=hx
  subst hx
  refine eS (P:=fun x=>SS C k sc x _) av fun hl=>eS (P:=fun x=>SS C k sc x _) (bo (P:=fun x=>SS C k sc x _) av fun z=>?_) fun h=>xv hl (ot h) (ih e).1
  obtain ⟨⟨elt,gs,cs,p⟩,rfl⟩:=z
  exact ki ih (ih' cs) hl
theorem gy {f:Stmt→S} (h: ∀ ps,SS C k sc (f ps) ps): ∀ pss:List Stmt,SSs C k sc (ta f pss) pss
 | []=>uq
 | ps::r=>rU (h ps) (gy h r)
theorem uv {l:List String} {c:Expr→E} {b:Ss} {x it:Expr} {pb o:List Stmt} {p:Pos} (ih: ∀ pe,Snd C k sc (c pe) pe) (hb:SSs C k sc b pb):SS C k sc (Cp (C.nm l) sc c b x it o) (.For x it pb o p):=by
 refine bo (P:=fun x=>SS C k sc x _) av fun y=>?_
 obtain ⟨⟨y,q⟩,rfl⟩:=y
 refine bo (P:=fun x=>SS C k sc x _) av fun z=>?_
 obtain ⟨z,hz⟩:=z
 have hz:(z:Str)=y:=hz
 subst hz
 refine eS (P:=fun x=>SS C k sc x _) av fun h=>?_
 obtain ⟨h,h3⟩:=bz h
 obtain ⟨h1,h2⟩:=bz h
 have h1:o=[]:=List.isEmpty_iff.mp h1
 subst h1
 exact xu h2 (ot h3) (ih it).1 hb
theorem pG {l:List String} {c:Expr→E} (ih: ∀ pe,Snd C k sc (c pe) pe) {e:Expr} {p:Pos}:SS C k sc (tF (C.nm l) sc c e) (.Raise (some e) none p):=by
 refine bo (P:=fun x=>SS C k sc x _) av fun x=>?_
 obtain ⟨⟨f,es,kw,q⟩,rfl⟩:=x
 refine bo (P:=fun x=>SS C k sc x _) av fun y=>?_
 obtain ⟨⟨y,np⟩,hy⟩:=y
 have hy:f=.Name y np:=hy
 subst hy
 refine bo (P:=fun x=>SS C k sc x _) av fun g=>?_
 obtain ⟨g,hg⟩:=g
 have hg:(g:Str)=y:=hg
 subst hg
 refine bo (P:=fun x=>SS C k sc x _) av fun a=>?_
 obtain ⟨a,ha⟩:=a
 have ha:es=[a]:=ha
 subst ha
 refine bo (P:=fun x=>SS C k sc x _) av fun m=>eS (P:=fun x=>SS C k sc x _) av fun h=>?_
 obtain ⟨h,h4⟩:=bz h
 obtain ⟨h,h3⟩:=bz h
 obtain ⟨h1,h2⟩:=bz h
 have h4:kw=[]:=List.isEmpty_iff.mp h4
 subst h4
 have hs:SEs C k sc (lB c [a]) [a]:=dA ih (by rw [List.all_cons,show aW a=true from h3]; rfl)
 rw [lB,show c a=.str m.1 from m.2] at hs
 exact rW h1 (List.contains_iff_mem.mp h2) hs
theorem uu {l:List String} {f:List Stmt→Ss} (hf: ∀ pss,SSs C k sc (f pss) pss) {b:List Stmt} {hs:List ExceptHandler} {o fi:List Stmt} {p:Pos}:SS C k sc (Cj (C.nm l) sc f b hs o fi) (.Try b hs o fi p):=by
 refine eS (P:=fun x=>SS C k sc x _) av fun h0=>bo (P:=fun x=>SS C k sc x _) av fun h=>?_
 have h1:o=[]:=List.isEmpty_iff.mp (bz h0).1
 have h2:fi=[]:=List.isEmpty_iff.mp (bz h0).2
 subst h1 h2
 obtain ⟨h,rfl⟩:=h
 refine bo (P:=fun x=>SS C k sc x _) av fun x=>?_
 obtain ⟨⟨t,n,ph,hp⟩,hx⟩:=x
 have hx:h=.ExceptHandler (some t) n ph hp:=hx
 subst hx
 refine bo (P:=fun x=>SS C k sc x _) av fun y=>?_
 obtain ⟨⟨y,np⟩,hy⟩:=y
 have hy:t=.Name y np:=hy
 subst hy
 refine bo (P:=fun x=>SS C k sc x _) av fun c=>?_
 obtain ⟨c,hc⟩:=c
 have hc:(c:Str)=y:=hc
 subst hc
 refine eS (P:=fun x=>SS C k sc x _) av fun h=>?_
 obtain ⟨h,h3⟩:=bz h
 obtain ⟨h1,h2⟩:=bz h
 cases n with
 | none=>exact xq h1 (List.contains_iff_mem.mp h2) (cH h3) (hf b) (hf ph)
 | some z=>
  show SS C k sc ((nm (C.nm l).all z).elim .stuck fun v=>bif kd sc v.1 == some .local then .try_ (f b) c (some v.1) (f ph) else .stuck) _
  refine bo (P:=fun x=>SS C k sc x _) av fun v=>eS (P:=fun x=>SS C k sc x _) av fun h=>?_
  obtain ⟨v,hv⟩:=v
  have hv:(v:Str)=z:=hv
  subst hv
  exact rV (beq_iff_eq.mp h) h1 (List.contains_iff_mem.mp h2) (cH h3) (hf b) (hf ph)
theorem tb {l:List String}: ∀ (n:Nat) (sc:Scope) (ps:Stmt),SS C k sc (cS (C.nm l) n sc ps) ps
 | 0,_,_=>av
 | n+1,sc,ps=>by
  have ih:=tb (l:=l) n sc
  have ie:=fun sc=>tc (C:=C) (k:=k) (l:=l) n sc
  cases ps with
  | Expr e p=>exact eS (P:=fun x=>SS C k sc x _) av fun h=>AP (ot h) (ie sc e).1
  | Assign ts e p=>exact uw (ie sc) fun cs=>ie (cc cs sc)
  | If c t f p=>exact xt (ie sc c).2 (gy ih t) (gy ih f)
  | While c b o p=>
   refine eS (P:=fun x=>SS C k sc x _) av fun h=>?_
   have h:o=[]:=List.isEmpty_iff.mp h
   subst h
   exact xp (ie sc c).2 (gy ih b)
  | For x it b o p=>exact uv (ie sc) (gy ih b)
  | Return e p=>
   cases e with
   | none=>exact av
   | some pe=>exact xr (ie sc pe).1
  | Continue p=>exact ut
  | Pass p=>exact ur
  | Raise e f p=>
   refine eS (P:=fun x=>SS C k sc x _) av fun h=>?_
   have h:f=none:=Option.isNone_iff_eq_none.mp h
   subst h
   cases e with
   | none=>exact av
   | some pe=>exact pG (ie sc)
  | Try b hs o fi p=>exact uu (gy ih)
  | _=>exact av
theorem ux {l:List String} (n:Nat) (sc:Scope) (pss:List Stmt):SSs C k sc (cSs (C.nm l) n sc pss) pss:=gy (tb n sc) pss
end
end
noncomputable section
open PySem PyProof.Rows
noncomputable def dy:List String→List V→String→Option V
 | []=>fun _ _=>.none
 | p::ps=>fun vs x=>vs.head?.bind fun v=>if x=p then some v else dy ps vs.tail x
noncomputable def lg (ps:List String) (vs:List Value):List (Str×Value):=(ps.zip vs).map fun x=>((x.1:Str),x.2)
structure Ct (C:Cx) (f:String) (ps:List String) (ss:Ss) (fa:Addr) (o:Obj) (fd:FuncData) (body:List Stmt):Prop where
 mg:C.fa f=some fa
 obj:C.base.get? fa=some o
 data:o.data=.func fd
 code:C.base.CodeRec fd.code fd.qualname
 text:fd.body=.stmts body
 closure:fd.closure=[]
 globals:fd.globals=mainGlobals
 builtins:fd.builtins=builtinsNs
 kind:fd.scope.kind=.function
 co:fd.scope.isCoroutine=false
 gen:fd.scope.isGenerator=false
 bind: ∀ vals:List Value,vals.length=ps.length→bindArgs fd ⟨vals,[]⟩=pure (lg ps vals)
 params: ∀ p∈ps,kd fd.scope p=some .local∨kd fd.scope p=some .cell
 nofree: ∀ n,fd.scope.names.lookup n≠some .free
 nodup:ps.Nodup
 sound: ∀ k,SSs C k fd.scope ss body
noncomputable def bO (C:Cx) (f:String) (ps:List String) (ss:Ss):Prop:=∃ fa o fd body,Ct C f ps ss fa o fd body
theorem rQ {x:Str×Value} {ps:List String} {vs:List Value} (h:x∈lg ps vs): ∃ p∈ps,x.1=(p:Str):=by
 obtain ⟨y,h1,rfl⟩:=List.mem_map.mp h
 exact ⟨y.1,(List.of_mem_zip h1).1,rfl⟩
section
variable {kindOf:Str→Option NameKind} {h:Heap} {ρ:List Addr} {N:Addr→Prop}
theorem iZ {a:Str} {v:Value} {l:List (Str×Value)} {m:Str→Option Value}:bindL kindOf ((a,v)::l) m=bindL kindOf l (if kindOf a=some .local then fun y=>if y=a then some v else m y else m):=rfl
theorem ja {a:Str} {v:Value} {l:List (Str×Value)} {m:Str→Option Value}:bindC kindOf ((a,v)::l) m=bindC kindOf l (if kindOf a=some .local then m else fun y=>if y=a then some v else m y):=rfl
theorem mf {x:String} (ps:List String): ∀ (ms:List Value) (m:Str→Option Value),x ∉ ps→bindL kindOf (lg ps ms) m x=m x:=by
 induction ps with
 | nil=>exact fun _ _ _=>rfl
 | cons p ps ih=>
  intro ms m hx
  cases ms with
  | nil=>rfl
  | cons v ms=>
   rw [show lg (p::ps) (v::ms)=((p:Str),v)::lg ps ms from rfl,iZ,ih ms _ fun q=>hx (List.mem_cons_of_mem _ q)]
   split
   ·exact if_neg fun e=>hx (List.mem_cons.mpr (.inl (eu e)))
   ·rfl
theorem mj {x:String} (ps:List String): ∀ (ms:List Value) (m:Str→Option Value),x ∉ ps→bindC kindOf (lg ps ms) m x=m x:=by
 induction ps with
 | nil=>exact fun _ _ _=>rfl
 | cons p ps ih=>
  intro ms m hx
  cases ms with
  | nil=>rfl
  | cons v ms=>
   rw [show lg (p::ps) (v::ms)=((p:Str),v)::lg ps ms from rfl,ja,ih ms _ fun q=>hx (List.mem_cons_of_mem _ q)]
   split
   ·rfl
   ·exact if_neg fun e=>hx (List.mem_cons.mpr (.inl (eu e)))
theorem rm {x:String} {v:V} (hk:kindOf x=some .local) (ps:List String): ∀ {vs:List V} {ms:List Value} {m:Str→Option Value},ps.Nodup→aI h ρ N vs ms→dy ps vs x=some v→∃ mv,bindL kindOf (lg ps ms) m x=some mv∧Rel h ρ N v mv:=by
 induction ps with
 | nil=>intro _ _ _ _ _ e; cases e
 | cons p ps ih=>
  intro vs ms m nd r e
  cases r with
  | nil=>cases e
  | @cons v0 m0 vs ms r q=>
   have e:(if x=p then some v0 else dy ps vs x)=some v:=e
   rw [show lg (p::ps) (m0::ms)=((p:Str),m0)::lg ps ms from rfl,iZ]
   by_cases hx:x=p
   ·rw [if_pos hx] at e
    cases e
    subst hx
    rw [mf ps ms _ (List.nodup_cons.mp nd).1,if_pos hk]
    exact ⟨m0,if_pos rfl,r⟩
   ·rw [if_neg hx] at e
    exact ih (List.nodup_cons.mp nd).2 q e
theorem rn {x:String} {v:V} (hk:kindOf x≠some .local) (ps:List String): ∀ {vs:List V} {ms:List Value} {m:Str→Option Value},ps.Nodup→aI h ρ N vs ms→dy ps vs x=some v→∃ mv,bindC kindOf (lg ps ms) m x=some mv∧Rel h ρ N v mv:=by
 induction ps with
 | nil=>intro _ _ _ _ _ e; cases e
 | cons p ps ih=>
  intro vs ms m nd r e
  cases r with
  | nil=>cases e
  | @cons v0 m0 vs ms r q=>
   have e:(if x=p then some v0 else dy ps vs x)=some v:=e
   rw [show lg (p::ps) (m0::ms)=((p:Str),m0)::lg ps ms from rfl,ja]
   by_cases hx:x=p
   ·rw [if_pos hx] at e
    cases e
    subst hx
    rw [mj ps ms _ (List.nodup_cons.mp nd).1,if_neg hk]
    exact ⟨m0,if_pos rfl,r⟩
   ·rw [if_neg hx] at e
    exact ih (List.nodup_cons.mp nd).2 q e
end
section
variable {C:Cx} {k:Nat} {γ γ':Gh} {env:Env} {A:Around} {ρ ρ':List Addr} {H H':List HO} {s s':Shared}
noncomputable def ku:Flow→V
 | .ret v=>v
 | _=>.none
theorem hG {f:String} {ps:List String} {ss:Ss} {args:List V} {Q:V→List HO→Prop} {X:String→List HO→Prop} {fa:Addr} {o:Obj} {fd:FuncData} {body:List Stmt} (F:Ct C f ps ss fa o fd body) (hl:args.length=ps.length)
  (w:wSs (Calls C k) C.glo ss ⟨dy ps args,H⟩ (fun fl st=>Q (ku fl) st.H) fun c st=>X c st.H) (hX: ∀ c H',X c H'→az H') {ms:List Value} {R:Result→Shared→Prop} (hr:bK (2*k+1+1) A γ) (I:Inv C γ ρ H s) (ra:aI s.heap ρ (Nl γ ρ H) args ms)
  (h: ∀ v mv H' ρ' s',Q v H'→Rel s'.heap ρ' (Nl γ ρ' H') v mv→Inv C γ ρ' H' s'→Stp ρ H s ρ' H' s'→R (.ok (.ret mv)) s')
  (hx: ∀ c ev H' ρ' s',X c H'→lc C s.heap s' ev c→Inv C γ ρ' H' s'→Stp ρ H s ρ' H' s'→R (.error ev) s'):codeAny C.M A (.call (.ref fa) ⟨ms,[]⟩) R s:=by
 have hlm:ms.length=ps.length:=by rw [← ra.length,hl]
 have hkinds: ∀ n,∀ x∈lg ps ms,fd.scope.names.lookup x.1=some .local∨(fd.scope.names.lookup x.1=some .cell∧((cellsFrom n fd.scope.names []).lookup x.1).isSome=true):=fun n x hx=>by
  obtain ⟨p,hp,e⟩:=rQ hx
  rw [e]
  rcases F.params p hp with q | q
  ·exact .inl q
  ·exact .inr ⟨q,PySem.W.cellsFrom_some _ _ _ (.inl q)⟩
 refine codeAny_call_cells (by have:=hr.depth; unfold recursionLimit; exact lin [_,k] [(1,.a (.a (.v 0) (.a (.a (.m 2 (.v 1)) (.n 1)) (.n 1))) (.n 1),.n 900)] 1 (.a (.v 0) (.n 1)) (.n 1000) rfl this) (I.base _ _ F.obj) F.data (C.nolimit.keeps I.base) ?_ F.text (F.bind ms hlm) F.closure (hkinds _) (fun s₁ ic=>?_) F.co F.gen F.kind
 ·obtain ⟨c,oc,vs,t,e1,e2,e3,e4⟩:=F.code
  exact ⟨c,oc,vs,t,e1,I.base _ _ e2,e3,e4⟩
 generalize hL:s.heap.objs.size=L at ic ⊢
 have fresh: ∀ b,L≤b→s.heap.get? b=none:=fun b hb=>by
  cases e:s.heap.get? b with
  | none=>rfl
  | some o'=>exact absurd (Heap.lt_size e) (by rw [hL]; exact Nat.not_lt.mpr hb)
 obtain ⟨h1,tk,hs1⟩:=ic.toInCall.same
 have g:bL s s₁:=⟨ic.toInCall.keep,by rw [hs1],by rw [hs1]⟩
 let env:=callEnvC fd L fa
 let γ₁:Gh:=⟨fun b=>γ.h b∨b=L∨∃ n,env.cells.lookup n=some b,fun b=>γ.f b∨b=L,fun b q=>q.elim (fun q=>.inl (γ.fh b q)) fun q=>.inr (.inl q),γ.e,γ.b,fun b q=>.inl (γ.bh b q)⟩
 have new: ∀ b,γ₁.h b→γ.h b∨(s.heap.get? b=none∧∃ o,s₁.heap.get? b=some o):=fun b q=>by
  rcases q with q | rfl | ⟨n,q⟩
  ·exact .inl q
  ·exact .inr ⟨fresh _ (Nat.le_refl _),bT ic.toInCall.ns⟩
  ·refine .inr ⟨fresh _ (Nat.le_of_lt (ic.above n b (mem_of_lookup q))),?_⟩
   obtain ⟨o,e,_⟩:=ic.cell n b q
   exact ⟨o,e⟩
 have I1:Inv C γ₁ ρ H s₁:=I.holds g new (fun b q=>q.imp id fun e=>by rw [e]; exact dS ic.toInCall.ns) (fun _ q=>q) fun _=>Iff.rfl
 have K1:cG s.heap ρ (Nl γ ρ H) s₁.heap ρ (Nl γ₁ ρ H):=fu g fun b q=>(new b q).imp id And.left
 have ra1:=ra.kept K1
 have F1:Fra γ₁ env ⟨dy ps args,H⟩ ρ s₁:=by
  refine ⟨F.kind,F.globals,F.builtins,I1.ghost_nl (.inr (.inl rfl)),.inr (.inl rfl),⟨_,ic.toInCall.ns,fun x v k _ q=>rm k ps F.nodup ra1 q⟩,fun n kn=>?_,fun n n' c q q'=>name_of_addr ic.apart (mem_of_lookup q) (mem_of_lookup q'),fun q=>I.ghost_new (fresh _ (Nat.le_refl _)) (γ.bh _ q),fun n c h=>⟨.inr (.inr ⟨n,h⟩),fun q=>I.ghost_new (fresh _ (Nat.le_of_lt (ic.above n c (mem_of_lookup h)))) (γ.bh _ q)⟩⟩
  have kn:fd.scope.names.lookup n=some .cell:=by
   rcases kn with q | q
   ·exact q
   ·exact absurd q (F.nofree n)
  obtain ⟨c,hc⟩:=Option.isSome_iff_exists.mp (PySem.W.cellsFrom_some (x:=n) fd.scope.names (L+1) [] (.inl kn))
  have hc':env.cells.lookup n=some c:=hc
  refine ⟨c,_,hc',⟨I1.ghost_nl (.inr (.inr ⟨n,hc'⟩)),.inr (.inr ⟨n,hc'⟩)⟩,ic.cell n c hc',fun y hy v q=>?_⟩
  subst hy
  exact rn (by show env.kindOf (y:Str)≠_; rw [show env.kindOf (y:Str)=some .cell from kn]; simp) ps F.nodup ra1 q
 obtain ⟨l0,hl0,_⟩:=hr.frs
 refine wpAny_mono (F.sound k env (A.deeper env) s₁ γ₁ ρ ⟨dy ps args,H⟩ _ _ rfl (hr.deeper env (fun _=>.inl) (fun _ q=>q) (by show fd.scope.kind≠.module; rw [F.kind]; decide) (L:=L) rfl (.inr rfl)) ⟨l0,Around.frames_deeper hl0⟩ I1 F1 w) (fun fl s' p=>?_) fun ev s' p=>?_
 rotate_left
 ·obtain ⟨c,st',ρ',q1,q2,q3,q4,q5⟩:=p
  obtain ⟨l,hl1,hl2⟩:=hr.frs
  have own: ∀ b,Own env b→s.heap.get? b=none:=fun b q=>by
   rcases q with rfl | ⟨n,_,q⟩
   ·exact fresh _ (Nat.le_refl _)
   ·exact fresh _ (Nat.le_of_lt (ic.above n b (mem_of_lookup q)))
  have back: ∀ a,s₁.heap.get? a=none→s.heap.get? a=none:=fun a q=>by
   cases e:s.heap.get? a with
   | none=>rfl
   | some o=>rw [g.keep _ _ e] at q; cases q
  unfold leaving
  refine wpAny_bind (yH (b:=s.heap) (L:=L) (Around.frames_deeper hl1) rfl (fun e he=>?_) q3.frm (fun a o e=>?_) (q2.back back) fun h' e T _ he hT xo sl x=>?_)
  ·rcases List.mem_cons.mp he with rfl | he
   ·exact ⟨by show fd.scope.kind≠.module; rw [F.kind]; decide,L,rfl,.inr rfl⟩
   ·obtain ⟨z1,L',z2,z3⟩:=hl2 e he
    exact ⟨z1,L',z2,.inl z3⟩
  ·cases z:s'.heap.get? a with
   | some o'=>exact ⟨o',rfl⟩
   | none=>have:=q5.back q3 q4 a z; rw [g.keep _ _ e] at this; cases this
  have I2:=q3.slip (hX c _ q1) (I.none_above he) (I.none_above hT) xo sl
  refine hx c ev st'.H ρ' _ q1 x (I2.drop (fun _=>.inl) (fun _=>.inl) (fun _ q=>q) (fun _=>Iff.rfl)) ⟨⟨(fun a o e n=>by
   obtain ⟨o',e1,al⟩:=q5.keep a o (g.keep _ _ e) n fun q=>by rw [own a q] at e; cases e
   obtain ⟨o'',e2,al2,_⟩:=sl.1 a o' e1 (fun z=>by rw [z,he] at e; cases e) fun z=>by rw [z,hT] at e; cases e
   exact ⟨o'',e2,al.trans al2⟩),(fun a q=>by
   by_cases ho:Own env a
   ·exact .inr (own a ho)
   ·rcases q5.live a ho q with z | z
    ·exact .inl z
    ·exact .inr (back a z)),q5.pre⟩⟩
 obtain ⟨f',st',ρ',q1,q2,q3,q4,q5⟩:=p
 have I2:Inv C γ ρ' st'.H s':=q3.drop (fun _=>.inl) (fun _=>.inl) (fun _ q=>q) (fun _=>Iff.rfl)
 have Kl:cG s'.heap ρ' (Nl γ₁ ρ' st'.H) s'.heap ρ' (Nl γ ρ' st'.H):=cW fun _=>.inl
 have own: ∀ b,Own env b→s.heap.get? b=none:=fun b q=>by
  rcases q with rfl | ⟨n,_,q⟩
  ·exact fresh _ (Nat.le_refl _)
  ·exact fresh _ (Nat.le_of_lt (ic.above n b (mem_of_lookup q)))
 have S2:Stp ρ H s ρ' st'.H s':=⟨⟨(fun a o e n=>by
   refine q5.keep a o (g.keep _ _ e) n fun q=>?_
   rw [own a q] at e; cases e),(fun a q=>by
   by_cases ho:Own env a
   ·exact .inr (own a ho)
   ·rcases q5.live a ho q with z | z
    ·exact .inl z
    ·refine .inr ?_
     cases e:s.heap.get? a with
     | none=>rfl
     | some o=>rw [g.keep _ _ e] at z; cases z),q5.pre⟩⟩
 cases q2 with
 | next=>exact h .none .none st'.H ρ' s' q1 .none I2 S2
 | brk=>exact h .none .none st'.H ρ' s' q1 .none I2 S2
 | cont=>exact h .none .none st'.H ρ' s' q1 .none I2 S2
 | ret r=>exact h _ _ st'.H ρ' s' q1 (r.kept Kl) I2 S2
theorem aq {f:String} {ps:List String} {ss:Ss} {args:List V} {v:V} (F:bO C f ps ss) (hl:args.length=ps.length)
  (w:wSs (Calls C k) C.glo ss ⟨dy ps args,H⟩ (fun fl st=>ku fl=v∧low H.length v∧st.H.take H.length=H) noX):Calls C (k+1) f args H (.ok v) H:=by
 obtain ⟨fa,o,fd,body,F⟩:=F
 intro A s γ ρ ms fa' hr I ra hfa
 have:fa'=fa:=by have:=F.mg; rw [hfa] at this; cases this; rfl
 subst this
 refine hG (Q:=fun u H'=>u=v∧low H.length v∧H'.take H.length=H) (X:=fun _ _=>False) F hl w (fun _ _ h=>h.elim) hr I ra (fun u mv H' ρ' s' q r I' S=>?_) fun _ _ _ _ _ h=>h.elim
 obtain ⟨rfl,q1,q2⟩:=q
 have S':=S.cut (n:=H.length) (by rw [I.len]; exact Nat.le_refl _)
 have I'':Inv C γ (ρ'.take H.length) (H'.take H.length) s':=I'.cut (fun z=>I.hq (q2▸z)) fun i o hi ho=>by
  have:H[i]?= some o:=by rw [← q2,List.getElem?_take,if_pos hi]; exact ho
  exact I.lowO this
 have r':=r.cut (n:=H.length) (N':=Nl γ (ρ'.take H.length) (H'.take H.length)) (fun a q=>q.imp dt id) q1
 rw [q2] at S' I'' r'
 exact ⟨_,r',I'',S'⟩
theorem jR {f:String} {ps:List String} {ss:Ss} {args:List V} {v:V} (F:bO C f ps ss) (hl:args.length=ps.length)
  (w:wSs (Calls C k) C.glo ss ⟨dy ps args,H⟩ (fun fl st=>ku fl=v∧st.H=H') noX):Calls C (k+1) f args H (.ok v) H':=by
 obtain ⟨fa,o,fd,body,F⟩:=F
 intro A s γ ρ ms fa' hr I ra hfa
 have:fa'=fa:=by have:=F.mg; rw [hfa] at this; cases this; rfl
 subst this
 refine hG (Q:=fun u H''=>u=v∧H''=H') (X:=fun _ _=>False) F hl w (fun _ _ h=>h.elim) hr I ra (fun u mv H'' ρ' s' q r I' S=>?_) fun _ _ _ _ _ h=>h.elim
 obtain ⟨rfl,rfl⟩:=q
 exact ⟨ρ',r,I',S⟩
theorem iW {f:String} {ps:List String} {ss:Ss} {args:List V} {c:String} (F:bO C f ps ss) (hl:args.length=ps.length) (hz:az H)
  (w:wSs (Calls C k) C.glo ss ⟨dy ps args,H⟩ (fun _ _=>False) fun c' st=>c'=c∧az st.H∧st.H.take H.length=H):Calls C (k+1) f args H (.err c) H:=by
 obtain ⟨fa,o,fd,body,F⟩:=F
 intro A s γ ρ ms fa' hr I ra hfa
 have:fa'=fa:=by have:=F.mg; rw [hfa] at this; cases this; rfl
 subst this
 refine hG (Q:=fun _ _=>False) (X:=fun c' H'=>c'=c∧az H'∧H'.take H.length=H) F hl w (fun _ _ h=>h.2.1) hr I ra (fun _ _ _ _ _ h=>h.elim) fun c' ev H' ρ' s' hc x I' S=>?_
 obtain ⟨rfl,_,q2⟩:=hc
 have S':=S.cut (n:=H.length) (by rw [I.len]; exact Nat.le_refl _)
 have I'':Inv C γ (ρ'.take H.length) (H'.take H.length) s':=I'.cut (fun z=>I.hq (q2▸z)) fun i o hi ho=>by
  have:H[i]?= some o:=by rw [← q2,List.getElem?_take,if_pos hi]; exact ho
  exact I.lowO this
 rw [q2] at S' I''
 exact ⟨_,x,I'',S'⟩
end
end
noncomputable section
open PySem
section
variable (Φ:Orc) (G:String→Option V)
noncomputable def Ev (e:E) (st:St) (v:V) (st':St):Prop:=∀ (Q:V→St→Prop) (X:String→St→Prop),Q v st'→wE Φ G e st Q X
noncomputable def Evs (es:Es) (st:St) (vs:List V) (st':St):Prop:=∀ (Q:List V→St→Prop) (X:String→St→Prop),Q vs st'→wEs Φ G es st Q X
noncomputable def rF (es:Es) (st:St) (b:Bool) (st':St):Prop:=∀ (Q:V→St→Prop) (X:String→St→Prop),Q (.bool b) st'→wG Φ G es st Q X
noncomputable def zo (es:Es) (st:St) (b:Bool) (st':St):Prop:=∀ (Q:V→St→Prop) (X:String→St→Prop),Q (.bool b) st'→wOr Φ G es st Q X
end
inductive New (vs:List V) (st:St):V→St→Prop
 | lst:New vs st (.lst vs) st
 | loc:New vs st (.loc st.H.length) ⟨st.s,st.H++[.list vs]⟩
theorem New.w {vs:List V} {st st':St} {v:V} (n:New vs st v st') {Q:V→St→Prop} (q:Q v st'):jH vs st Q:=by
 cases n with
 | lst=>exact .inl q
 | loc=>exact .inr q
section
variable {Φ:Orc} {G:String→Option V} {st st' st₁ st₂ st₃:St} {e a b c i lo hi elt it:E} {es:Es} {v va vb vc vi:V} {vs xs ys:List V} {x f t k:String} {op op':CmpOp} {r r':Bool}
theorem aO:Ev Φ G .none st .none st:=fun _ _ q=>q
theorem ac {n:Int}:Ev Φ G (.int n) st (.int n) st:=fun _ _ q=>q
theorem ag {s:List Nat}:Ev Φ G (.str s) st (.str s) st:=fun _ _ q=>q
theorem aa (h:st.s x=some v):Ev Φ G (.var x) st v st:=fun _ _ q=>⟨v,h,.inl q⟩
theorem yZ (h:G x=some v):Ev Φ G (.glo x) st v st:=fun _ _ q=>⟨v,h,q⟩
theorem cY (h:Evs Φ G es st vs st'):Ev Φ G (.tup es) st (.tup vs) st':=fun _ X q=>h _ X q
theorem bg (h:Evs Φ G es st vs st₁) (n:New vs st₁ v st'):Ev Φ G (.list es) st v st':=fun _ X q=>h _ X (n.w q)
theorem af {o:Operator} (h₁:Ev Φ G a st va st₁) (h₂:Ev Φ G b st₁ vb st₂) (h:Bin o va vb v):Ev Φ G (.bin o a b) st v st₂:=fun _ X q=>h₁ _ X (h₂ _ X (.inl ⟨v,h,q⟩))
theorem fM (h₁:Ev Φ G a st va st₁) (h₂:Ev Φ G b st₁ vb st₂) (h₃:fk st₂.H va xs) (h₄:fk st₂.H vb ys) (hl:xs.length+ys.length≤16000000) (n:New (xs++ys) st₂ v st'):Ev Φ G (.bin .Add a b) st v st':=
 fun _ X q=>h₁ _ X (h₂ _ X (.inr ⟨xs,ys,rfl,h₃,h₄,hl,n.w q⟩))
theorem tC (h:Ev Φ G a st (.bool r) st'):Ev Φ G (.not a) st (.bool (!r)) st':=fun _ X q=>h _ X ⟨r,rfl,q⟩
theorem ir (h:Ev Φ G a st (.bool true) st'):Ev Φ G (.not a) st (.bool false) st':=tC h
theorem lW (h:Ev Φ G a st (.bool false) st'):Ev Φ G (.not a) st (.bool true) st':=tC h
theorem kT (h:rF Φ G es st r st'):Ev Φ G (.and es) st (.bool r) st':=fun _ X q=>h _ X q
theorem cT (h:zo Φ G es st r st'):Ev Φ G (.or es) st (.bool r) st':=fun _ X q=>h _ X q
theorem jV:rF Φ G .nil st true st:=fun _ _ q=>q
theorem iv (h₁:Ev Φ G e st (.bool true) st₁) (h₂:rF Φ G es st₁ r st'):rF Φ G (.cons e es) st r st':=fun _ X q=>h₁ _ X ⟨true,rfl,.inl ⟨rfl,h₂ _ X q⟩⟩
theorem zm (h₁:Ev Φ G e st (.bool false) st₁):rF Φ G (.cons e es) st false st₁:=fun _ X q=>h₁ _ X ⟨false,rfl,.inr ⟨rfl,q⟩⟩
theorem gM:zo Φ G .nil st false st:=fun _ _ q=>q
theorem dx (h₁:Ev Φ G e st (.bool false) st₁) (h₂:zo Φ G es st₁ r st'):zo Φ G (.cons e es) st r st':=fun _ X q=>h₁ _ X ⟨false,rfl,.inr ⟨rfl,h₂ _ X q⟩⟩
theorem mR (h₁:Ev Φ G e st (.bool true) st₁):zo Φ G (.cons e es) st true st₁:=fun _ X q=>h₁ _ X ⟨true,rfl,.inl ⟨rfl,q⟩⟩
theorem cM (h₁:Ev Φ G a st va st₁) (h₂:Ev Φ G b st₁ vb st₂) (h:Cmp st₂.H op va vb r):Ev Φ G (.cmp op a b) st (.bool r) st₂:=fun _ X q=>h₁ _ X (h₂ _ X ⟨r,h,q⟩)
theorem cB (h₁:Ev Φ G a st va st₁) (h₂:Ev Φ G b st₁ vb st₂) (h:Cmp st₂.H op va vb true) (h₃:Ev Φ G c st₂ vc st₃) (h':Cmp st₃.H op' vb vc r):Ev Φ G (.cmp2 op op' a b c) st (.bool r) st₃:=
 fun _ X q=>h₁ _ X (h₂ _ X ⟨true,h,.inl ⟨rfl,h₃ _ X ⟨r,h',q⟩⟩⟩)
theorem gW (h₁:Ev Φ G a st va st₁) (h₂:Ev Φ G b st₁ vb st₂) (h:Cmp st₂.H op va vb false):Ev Φ G (.cmp2 op op' a b c) st (.bool false) st₂:=fun _ X q=>h₁ _ X (h₂ _ X ⟨false,h,.inr ⟨rfl,q⟩⟩)
theorem am (h₁:Ev Φ G a st va st₁) (h₂:Ev Φ G i st₁ vi st₂) (h:Idx st₂.H va vi v):Ev Φ G (.idx a i) st v st₂:=fun _ X q=>h₁ _ X (h₂ _ X ⟨v,h,q⟩)
inductive Slc (st:St) (l h:Option Int):V→V→St→Prop
 | str (cs:List Nat):Slc st l h (.str cs) (.str (slice cs (bM cs.length l) (bQ cs.length h))) st
 | seq {va v:V} {xs:List V} {st':St}:fk st.H va xs→New (slice xs (bM xs.length l) (bQ xs.length h)) st v st'→Slc st l h va v st'
theorem Slc.w {l h:Option Int} (z:Slc st l h va v st') {Q:V→St→Prop} (q:Q v st'):wI va l h st Q:=by
 cases z with
 | str cs=>exact .inl ⟨cs,rfl,q⟩
 | seq h1 h2=>exact .inr ⟨_,h1,h2.w q⟩
theorem bw {j:Int} (h₁:Ev Φ G a st va st₁) (o:hi.isOmit=false) (h₂:Ev Φ G hi st₁ (.int j) st₂) (z:Slc st₂ .none (some j) va v st'):Ev Φ G (.slc a .omit hi) st v st':=
 fun _ X q=>h₁ _ X (.inl ⟨rfl,.inr ⟨o,h₂ _ X ⟨j,rfl,z.w q⟩⟩⟩)
theorem aV {j:Int} (h₁:Ev Φ G a st va st₁) (o:lo.isOmit=false) (h₂:Ev Φ G lo st₁ (.int j) st₂) (z:Slc st₂ (some j) .none va v st'):Ev Φ G (.slc a lo .omit) st v st':=
 fun _ X q=>h₁ _ X (.inr ⟨o,h₂ _ X ⟨j,rfl,.inl ⟨rfl,z.w q⟩⟩⟩)
theorem sN {j k:Int} (h₁:Ev Φ G a st va st₁) (o:lo.isOmit=false) (h₂:Ev Φ G lo st₁ (.int j) st₂) (o':hi.isOmit=false) (h₃:Ev Φ G hi st₂ (.int k) st₃) (z:Slc st₃ (some j) (some k) va v st'):Ev Φ G (.slc a lo hi) st v st':=
 fun _ X q=>h₁ _ X (.inr ⟨o,h₂ _ X ⟨j,rfl,.inr ⟨o',h₃ _ X ⟨k,rfl,z.w q⟩⟩⟩⟩)
theorem qS {H':List HO} (h:Evs Φ G es st vs st₁) (hc:Φ f vs st₁.H (.ok v) H'):Ev Φ G (.call f es) st v ⟨st₁.s,H'⟩:=fun _ X q=>h _ X (.inl ⟨v,H',hc,q⟩)
theorem ai (h:Evs Φ G es st vs st₁) (hc:Φ f vs st₁.H (.ok v) st₁.H):Ev Φ G (.call f es) st v st₁:=qS h hc
theorem aB {g:BN} (h:Evs Φ G es st vs st₁) (hb:Blt st₁.H g vs v):Ev Φ G (.blt g es) st v st₁:=fun _ X q=>h _ X (.inl ⟨v,hb,q⟩)
theorem fw {g:BN} (h:Evs Φ G es st vs st₁) (hb:zp st₁.H g vs xs) (n:New xs st₁ v st'):Ev Φ G (.blt g es) st v st':=fun _ X q=>h _ X (.inr ⟨xs,hb,n.w q⟩)
theorem iT (h:Ev Φ G a st va st₁) (hk:rP st₁.H va k) (e:rH k t=r):Ev Φ G (.isi a t) st (.bool r) st₁:=fun _ X q=>h _ X ⟨k,hk,e▸q⟩
theorem iS {m:MN} (h₁:Ev Φ G a st va st₁) (hr:Rcv st₁.H va m) (h₂:Evs Φ G es st₁ vs st₂) (h:Mth st₂.H m va vs v):Ev Φ G (.mth m a es) st v st₂:=fun _ X q=>h₁ _ X ⟨hr,h₂ _ X (.inl ⟨v,h,q⟩)⟩
theorem dc {j:Nat} (h₁:Ev Φ G a st (.loc j) st₁) (hr:st₁.H[j]?= some (.list ys)) (h₂:Evs Φ G es st₁ [v] st₂) (hx:st₂.H[j]?= some (.list xs)) (hl:xs.length < 16000000):Ev Φ G (.mth .append a es) st .none ⟨st₂.s,st₂.H.set j (.list (xs++[v]))⟩:=
 fun _ X q=>h₁ _ X ⟨.append (.loc hr),h₂ _ X (.inr (.inl ⟨j,xs,v,⟨rfl,rfl,rfl⟩,hx,hl,q⟩))⟩
theorem yY {j:Nat} (h₁:Ev Φ G a st (.loc j) st₁) (hx:st₁.H[j]?= some (.list (xs++[v]))):Ev Φ G (.mth .pop a .nil) st v ⟨st₁.s,st₁.H.set j (.list xs)⟩:=fun _ X q=>h₁ _ X ⟨.pop (.loc hx),.inr (.inr (.inl ⟨j,xs,v,⟨rfl,rfl,rfl⟩,hx,q⟩))⟩
theorem cU {m:MN} (h₁:Ev Φ G a st va st₁) (hr:Rcv st₁.H va m) (h₂:Evs Φ G es st₁ vs st₂) (h:Av m va vs xs) (n:New xs st₂ v st'):Ev Φ G (.mth m a es) st v st':=fun _ X q=>h₁ _ X ⟨hr,h₂ _ X (.inr (.inr (.inr (.inl ⟨xs,h,n.w q⟩))))⟩
theorem dL {j:Nat} {fs:List (String×V)} (h:Ev Φ G a st va st₁) (o:fc st₁.H va j fs) (e:fs.lookup x=some v):Ev Φ G (.attr a x) st v st₁:=fun _ X q=>h _ X ⟨j,fs,v,o,e,q⟩
theorem wg {j:Nat} {fs:List (String×V)} (h:Ev Φ G a st va st₁) (o:fc st₁.H va j fs):Ev Φ G (.isiS a) st (.bool true) st₁:=fun _ X q=>h _ X ⟨j,fs,o,q⟩
theorem jM {m:String} {j:Nat} {fs:List (String×V)} {H':List HO} (h₁:Ev Φ G a st va st₁) (o:fc st₁.H va j fs) (e:fs.lookup m=.none) (h₂:Evs Φ G es st₁ vs st₂) (hc:Φ f (va::vs) st₂.H (.ok v) H'):Ev Φ G (.mcall f m a es) st v ⟨st₂.s,H'⟩:=fun _ X q=>h₁ _ X ⟨⟨j,fs,o,e⟩,h₂ _ X (.inl ⟨v,H',hc,q⟩)⟩
theorem kR {m:String} {j:Nat} {fs:List (String×V)} (h₁:Ev Φ G a st va st₁) (o:fc st₁.H va j fs) (e:fs.lookup m=.none) (h₂:Evs Φ G es st₁ vs st₂) (hc:Φ f (va::vs) st₂.H (.ok v) st₂.H):Ev Φ G (.mcall f m a es) st v st₂:=jM h₁ o e h₂ hc
theorem qQ {H':List HO} (h:Evs Φ G es st vs st₁) (hc:Φ "Store.__init__" (.loc (st₁.H.length+1)::vs) (st₁.H++[.attrs []]++[.obj st₁.H.length]) (.ok .none) H'):Ev Φ G (.make es) st (.loc (st₁.H.length+1)) ⟨st₁.s,H'⟩:=fun _ X q=>h _ X (.inl ⟨H',hc,q⟩)
theorem sO:Ev Φ G .dict st (.loc st.H.length) ⟨st.s,st.H++[.dictS []]⟩:=fun _ _ q=>.inl q
theorem sP:Ev Φ G .dict st (.loc st.H.length) ⟨st.s,st.H++[.dictI []]⟩:=fun _ _ q=>.inr q
theorem eA:Evs Φ G .nil st [] st:=fun _ _ q=>q
theorem aK (h₁:Ev Φ G e st v st₁) (h₂:Evs Φ G es st₁ vs st'):Evs Φ G (.cons e es) st (v::vs) st':=fun _ X q=>h₁ _ X (h₂ _ X q)
theorem aH (h₁:Ev Φ G e st v st'):Evs Φ G (.cons e .nil) st [v] st':=aK h₁ eA
theorem cL (h₁:Ev Φ G a st va st₁) (h₂:Ev Φ G b st₁ vb st'):Evs Φ G (.cons a (.cons b .nil)) st [va,vb] st':=aK h₁ (aH h₂)
theorem we (h₁:Ev Φ G a st va st₁) (h₂:Ev Φ G b st₁ vb st₂) (h₃:Ev Φ G c st₂ vc st'):Evs Φ G (.cons a (.cons b (.cons c .nil))) st [va,vb,vc] st':=aK h₁ (cL h₂ h₃)
theorem sT {α:Type} {f:V→St→(List V→St→Prop)→Prop} {K:List V→St→Prop} (g:α→V) (p:α→Bool) (q:α→V) (rs:List α): ∀ (acc:List V),
  (∀ r∈rs,∀ K':List V→St→Prop,K' (if p r then [q r] else []) st→f (g r) st K')→K (acc++(rs.filter p).map q) st→eU f (rs.map g) acc st K:=by
 induction rs with
 | nil=>intro acc _ kk; rw [show acc++List.map q (List.filter p [])=acc from List.append_nil _] at kk; exact kk
 | cons r rs ih=>
  intro acc h kk
  refine h r List.mem_cons_self _ (ih _ (fun u hu=>h u (List.mem_cons_of_mem _ hu)) ?_)
  rw [List.append_assoc]
  rw [List.filter_cons] at kk
  cases e:p r with
  | true=>rw [e,if_pos rfl] at kk; rw [if_pos rfl]; exact kk
  | false=>rw [e,if_neg Bool.false_ne_true] at kk; rw [if_neg Bool.false_ne_true]; exact kk
theorem cZ {α:Type} {g q:α→V} {p:α→Bool} {rs:List α} (hi:Ev Φ G it st vi st₁) (hs:dR vi (rs.map g)) (hc: ∀ r∈rs,Ev Φ G c (st₁.set x (g r)) (.bool (p r)) (st₁.set x (g r))) (he: ∀ r∈rs,p r=true→Ev Φ G elt (st₁.set x (g r)) (q r) (st₁.set x (g r)))
  (n:New ((rs.filter p).map q) st₁ v st'):Ev Φ G (.compIf elt x it c) st v st':=
 fun _ X qq=>hi _ X ⟨_,hs,sT g p q rs [] (fun r hr K' hK=>hc r hr _ _ (by
  cases e:p r with
  | true=>rw [e,if_pos rfl] at hK; exact .inl ⟨rfl,he r hr e _ _ hK⟩
  | false=>rw [e,if_neg Bool.false_ne_true] at hK; exact .inr ⟨rfl,hK⟩)) (n.w qq)⟩
theorem gk {α:Type} {g q:α→V} {rs:List α} (hi:Ev Φ G it st vi st₁) (hs:dR vi (rs.map g)) (he: ∀ r∈rs,Ev Φ G elt (st₁.set x (g r)) (q r) (st₁.set x (g r))) (n:New (rs.map q) st₁ v st'):Ev Φ G (.compX elt x it) st v st':=
 fun _ X qq=>hi _ X (.inl ⟨_,hs,sT g (fun _=>true) q rs [] (fun r hr K' hK=>he r hr _ _ hK) (by rw [List.filter_eq_self.mpr fun _ _=>rfl]; exact n.w qq)⟩)
theorem kS {α:Type} {g q:α→V} {rs:List α} {j:Nat} (hi:Ev Φ G it st (.loc j) st₁) (hs:st₁.H[j]?= some (.list (rs.map g))) (he: ∀ r∈rs,Ev Φ G elt ((St.mk st₁.s (st₁.H.set j .dead)).set x (g r)) (q r) ((St.mk st₁.s (st₁.H.set j .dead)).set x (g r))):Ev Φ G (.compX elt x it) st (.lst (rs.map q)) st₁:=
 fun Q X qq=>hi _ X (.inr ⟨j,_,rfl,hs,sT g (fun _=>true) q rs [] (fun r hr K' hK=>he r hr _ _ hK) (.inl (by
  have lt:=(List.getElem?_eq_some_iff.mp hs).1
  refine ⟨List.getElem?_set_self lt,?_⟩
  rw [List.filter_eq_self.mpr fun _ _=>rfl]
  have e:(st₁.H.set j .dead).set j (.list (rs.map g))=st₁.H:=by rw [List.set_set,← (List.getElem?_eq_some_iff.mp hs).2,List.set_getElem_self]
  show Q (.lst ([]++rs.map q)) ⟨st₁.s,(st₁.H.set j .dead).set j (.list (rs.map g))⟩
  rw [e]; exact qq))⟩)
theorem qR {d x:String} {i:Nat} {kvs:List (Int×V)} (h1:st.s d=some (.loc i)) (h2:st.H[i]?= some (.dictI kvs)) (nz:az st.H) (hne:d≠x) (hl: ∀ p∈kvs,kvs.lookup p.1=some p.2) (n:New (kvs.map fun p=>.tup [.int p.1,p.2]) st v st'):Ev Φ G (.dpairs d x) st v st':=
 fun _ X qq=>⟨i,kvs,h1,h2,nz,hne,hl,n.w qq⟩
theorem wh {α:Type} {g q:α→V} {rs:List α} (hi:Ev Φ G it st vi st₁) (hs:dR vi (rs.map g)) (he: ∀ r∈rs,Ev Φ G elt (st₁.set x (g r)) (q r) (st₁.set x (g r))) (n:New (rs.map q) st₁ v st'):Ev Φ G (.comp elt x it) st v st':=
 fun _ X qq=>hi _ X ⟨_,hs,sT g (fun _=>true) q rs [] (fun r hr K' hK=>he r hr _ _ hK) (by rw [List.filter_eq_self.mpr fun _ _=>rfl]; exact n.w qq)⟩
section
variable {ss tt ff bb:Ss} {Q:Flow→St→Prop} {X:String→St→Prop}
theorem aL {K:St→Prop} (h:K st):andThen K Q .next st:=.inl ⟨rfl,h⟩
theorem aF {K:St→Prop} (h:Q (.ret v) st):andThen K Q (.ret v) st:=.inr ⟨fun e=>Flow.noConfusion e,h⟩
theorem bC (h:Q .next st):wSs Φ G .nil st Q X:=h
theorem aA (h:Ev Φ G e st v st₁) (w:wSs Φ G ss (st₁.set x v) Q X):wSs Φ G (.cons (.asg x e) ss) st Q X:=h _ _ (aL w)
theorem rI (h:Ev Φ G e st v st₁) (w:wSs Φ G ss st₁ Q X):wSs Φ G (.cons (.ex e) ss) st Q X:=h _ _ (aL w)
theorem aP (h:Ev Φ G e st v st₁) (w:Q (.ret v) st₁):wSs Φ G (.cons (.ret e) ss) st Q X:=h _ _ (aF w)
theorem bl (h:Ev Φ G c st (.bool true) st₁) (w:wSs Φ G tt st₁ (andThen (fun st=>wSs Φ G ss st Q X) Q) X):wSs Φ G (.cons (.ite c tt ff) ss) st Q X:=h _ _ ⟨true,rfl,.inl ⟨rfl,w⟩⟩
theorem uR (h:Ev Φ G c st (.bool false) st₁) (w:wSs Φ G ff st₁ (andThen (fun st=>wSs Φ G ss st Q X) Q) X):wSs Φ G (.cons (.ite c tt ff) ss) st Q X:=h _ _ ⟨false,rfl,.inr ⟨rfl,w⟩⟩
theorem aR (h:Ev Φ G c st (.bool false) st₁) (w:wSs Φ G ss st₁ Q X):wSs Φ G (.cons (.ite c tt .nil) ss) st Q X:=uR h (show andThen (fun st=>wSs Φ G ss st Q X) Q .next st₁ from aL w)
theorem mI {j:Nat} {n:Int} (h₁:Ev Φ G e st v st₁) (h₂:Ev Φ G a st₁ (.loc j) st₂) (h₃:Ev Φ G i st₂ (.int n) st₃) (hx:st₃.H[j]?= some (.list xs)) (h0:0≤n) (hl:n.toNat < xs.length) (w:wSs Φ G ss ⟨st₃.s,st₃.H.set j (.list (xs.set n.toNat v))⟩ Q X):
  wSs Φ G (.cons (.asgSub a i e) ss) st Q X:=h₁ _ _ (h₂ _ _ (h₃ _ _ (.inl ⟨j,n,xs,⟨rfl,rfl⟩,hx,h0,hl,aL w⟩)))
theorem xS {j:Nat} {k:List Nat} {kvs:List (List Nat×V)} (h₁:Ev Φ G e st v st₁) (h₂:Ev Φ G a st₁ (.loc j) st₂) (h₃:Ev Φ G i st₂ (.str k) st₃) (hx:st₃.H[j]?= some (.dictS kvs)) (hl:kvs.length < 1000000) (w:wSs Φ G ss ⟨st₃.s,st₃.H.set j (.dictS (jX k v kvs))⟩ Q X):
  wSs Φ G (.cons (.asgSub a i e) ss) st Q X:=h₁ _ _ (h₂ _ _ (h₃ _ _ (.inr (.inl ⟨j,k,kvs,⟨rfl,rfl⟩,hx,hl,aL w⟩))))
theorem xR {j:Nat} {k:Int} {kvs:List (Int×V)} (h₁:Ev Φ G e st v st₁) (h₂:Ev Φ G a st₁ (.loc j) st₂) (h₃:Ev Φ G i st₂ (.int k) st₃) (hx:st₃.H[j]?= some (.dictI kvs)) (hl:kvs.length < 1000000) (w:wSs Φ G ss ⟨st₃.s,st₃.H.set j (.dictI (jX k v kvs))⟩ Q X):
  wSs Φ G (.cons (.asgSub a i e) ss) st Q X:=h₁ _ _ (h₂ _ _ (h₃ _ _ (.inr (.inr (.inl ⟨j,k,kvs,⟨rfl,rfl⟩,hx,hl,aL w⟩)))))
theorem pR {j:Nat} {fs:List (String×V)} (h₁:Ev Φ G e st v st₁) (h₂:Ev Φ G a st₁ va st₂) (o:fc st₂.H va j fs) (hl:fs.length < 900) (w:wSs Φ G ss ⟨st₂.s,st₂.H.set j (.attrs (rJ x v fs))⟩ Q X):wSs Φ G (.cons (.asgAttr a x e) ss) st Q X:=
 h₁ _ _ (h₂ _ _ ⟨j,fs,o,hl,aL w⟩)
noncomputable def EvX (Φ:Orc) (G:String→Option V) (e:E) (st:St) (c:String) (st':St):Prop:=∀ (Q:V→St→Prop) (X:String→St→Prop),X c st'→wE Φ G e st Q X
theorem wd {c:String} {H':List HO} (h:Evs Φ G es st vs st₁) (hc:Φ f vs st₁.H (.err c) H'):EvX Φ G (.call f es) st c ⟨st₁.s,H'⟩:=fun _ X q=>h _ X (.inr ⟨c,H',hc,q⟩)
theorem gf {c:String} (h:Evs Φ G es st vs st₁) (hc:Φ f vs st₁.H (.err c) st₁.H):EvX Φ G (.call f es) st c st₁:=wd h hc
theorem uS {c:String} (h:EvX Φ G e st c st₁) (w:X c st₁):wSs Φ G (.cons (.ex e) ss) st Q X:=h _ _ w
theorem te {c:String} (h:EvX Φ G e st c st₁) (w:X c st₁):wSs Φ G (.cons (.asg x e) ss) st Q X:=h _ _ w
theorem cP {c:String} (nz:az st.H) (w:X c st):wSs Φ G (.cons (.raise c) ss) st Q X:=⟨nz,w⟩
theorem xQ {hh:Ss} {c:String} {y:Option String} (nz:az st.H) (w:wSs Φ G bb st (andThen (fun st=>wSs Φ G ss st Q X) Q) fun c' st'=>(st'.H.length=st.H.length∧az st'.H∧bp c c'=true)∧
   wSs Φ G hh (st'.exc c' y) (fun f st₂=>Ar st.H.length f∧st₂.H.take st.H.length=st.H∧andThen (fun st=>wSs Φ G ss st Q X) Q f ((st₂.unx y).cut st.H.length)) noX):wSs Φ G (.cons (.try_ bb c y hh) ss) st Q X:=⟨nz,w⟩
theorem xP (J:Nat→St→Prop) (n:Nat) (h0:J n st) (step: ∀ m st,J (m+1) st→∃ st₁,Ev Φ G c st (.bool true) st₁∧∀ Q':Flow→St→Prop,(∀ st',J m st'→Q' .next st'∧Q' .cont st')→wSs Φ G bb st₁ Q' noX)
  (done: ∀ st,J 0 st→∃ st₁,Ev Φ G c st (.bool false) st₁∧wSs Φ G ss st₁ Q X):wSs Φ G (.cons (.whl c bb) ss) st Q X:=by
 refine ⟨n+1,?_⟩
 have key: ∀ m st,J m st→mA (fun st Q=>wT Φ G c st Q noX) (fun st Q=>wSs Φ G bb st Q noX) (m+1) st (andThen (fun st=>wSs Φ G ss st Q X) Q):=by
  intro m
  induction m with
  | zero=>
   intro st h
   obtain ⟨st₁,e,w⟩:=done st h
   exact e _ _ ⟨false,rfl,.inr ⟨rfl,aL w⟩⟩
  | succ m ih=>
   intro st h
   obtain ⟨st₁,e,w⟩:=step m st h
   exact e _ _ ⟨true,rfl,.inl ⟨rfl,w _ fun st' h'=>⟨.inl ⟨rfl,ih st' h'⟩,.inr (.inl ⟨rfl,ih st' h'⟩)⟩⟩⟩
 exact key n st h0
theorem sL {f:V→St→(Flow→St→Prop)→Prop} (items:List V): ∀ (J:Nat→St→Prop) (st:St),J 0 st→
  (∀ i v st,items[i]?= some v→J i st→∀ Q':Flow→St→Prop,(∀ st',J (i+1) st'→Q' .next st'∧Q' .cont st')→f v st Q')→(∀ st,J items.length st→Q .next st)→rN f items st Q:=by
 induction items with
 | nil=>exact fun J st h0 _ fin=>fin st h0
 | cons v r ih=>exact fun J st h0 step fin=>step 0 v st rfl h0 _ fun st' h'=>
   have go:=ih (fun i=>J (i+1)) st' h' (fun i u st hu hj=>step (i+1) u st hu hj) fun st h=>fin st h
   ⟨.inl ⟨rfl,go⟩,.inr (.inl ⟨rfl,go⟩)⟩
theorem sK {f:V→St→(Flow→St→Prop)→Prop} {R:V→St→Prop} (hR: ∀ u st,R u st→Q (.ret u) st) (items:List V): ∀ (J:Nat→St→Prop) (st:St),J 0 st→
  (∀ i v st,items[i]?= some v→J i st→∀ Q':Flow→St→Prop,(∀ st',J (i+1) st'→Q' .next st'∧Q' .cont st')→(∀ u st',R u st'→Q' (.ret u) st')→f v st Q')→(∀ st,J items.length st→Q .next st)→rN f items st Q:=by
 induction items with
 | nil=>exact fun J st h0 _ fin=>fin st h0
 | cons v r ih=>exact fun J st h0 step fin=>step 0 v st rfl h0 _ (fun st' h'=>
   have go:=ih (fun i=>J (i+1)) st' h' (fun i u st hu hj=>step (i+1) u st hu hj) fun st h=>fin st h
   ⟨.inl ⟨rfl,go⟩,.inr (.inl ⟨rfl,go⟩)⟩) fun u st' h'=>.inr (.inr (.inr ⟨u,rfl,hR u st' h'⟩))
theorem mH {items:List V} (J:Nat→St→Prop) (R:V→St→Prop) (h:Ev Φ G it st vi st₁) (hs:dR vi items) (h0:J 0 st₁)
  (step: ∀ i v st,items[i]?= some v→J i st→∀ Q':Flow→St→Prop,(∀ st',J (i+1) st'→Q' .next st'∧Q' .cont st')→(∀ u st',R u st'→Q' (.ret u) st')→wSs Φ G bb (st.set x v) Q' (xN X)) (hR: ∀ u st,R u st→Q (.ret u) st) (w: ∀ st,J items.length st→wSs Φ G ss st Q X):wSs Φ G (.cons (.for_ x it bb) ss) st Q X:=
 h _ _ (.inl ⟨items,hs,sK (fun u st q=>aF (hR u st q)) items J _ h0 step fun st h=>aL (w st h)⟩)
theorem ip {items:List V} (J:Nat→St→Prop) (h:Ev Φ G it st vi st₁) (hs:dR vi items) (h0:J 0 st₁)
  (step: ∀ i v st,items[i]?= some v→J i st→∀ Q':Flow→St→Prop,(∀ st',J (i+1) st'→Q' .next st'∧Q' .cont st')→wSs Φ G bb (st.set x v) Q' (xN X)) (w: ∀ st,J items.length st→wSs Φ G ss st Q X):wSs Φ G (.cons (.for_ x it bb) ss) st Q X:=
 h _ _ (.inl ⟨items,hs,sL items J _ h0 step fun st h=>aL (w st h)⟩)
end
end
end
noncomputable section
open PySem
noncomputable def hV:Ss:=
 (.cons (.ret (.and (.cons (.isi (.var "_law_found") "int") (.cons (.not (.isi (.var "_law_found") "bool")) .nil))))
 .nil)
noncomputable def eY:Ss:=
 (.cons (.ite (.cmp .Lt (.var "_law_k") (.blt .len (.cons (.var "_law_script") .nil))) (.cons (.ret (.idx (.var "_law_script") (.var "_law_k")))
 .nil) .nil)
 (.cons (.ret (.int 0))
 .nil))
section
variable {Φ:Orc} {G:String→Option V} {st st' st₁ st₂:St} {a b e:E} {es:Es} {va vb:V} {x:String} {op:CmpOp} {r r':Bool} {C:Cx} {k:Nat} {H:List HO}
theorem ae (h₁:Ev Φ G a st va st₁) (h₂:Ev Φ G b st₁ vb st₂) (h:Cmp st₂.H op va vb r) (e:r=r'):Ev Φ G (.cmp op a b) st (.bool r') st₂:=e▸cM h₁ h₂ h
theorem cC {v v':V} (h:Ev Φ G e st v st₁) (q:v=v'):Ev Φ G e st v' st₁:=q▸h
theorem gQ {n:Nat} (h:n≤1000000):dR (.rng 0 n 1) ((List.range n).map fun i:Nat=>V.int i):=by
 have e:(dY 0 n 1).map V.int=(List.range n).map fun i:Nat=>V.int i:=by
  rw [dY,List.map_map,show (((n:Int) - 0+1 - 1) / 1).toNat=n by rw [Int.sub_zero,Int.add_sub_cancel,Int.ediv_one,Int.toNat_natCast]]
  refine List.map_congr_left fun i _=>?_
  show V.int (0+1*(i:Int))=_
  rw [Int.one_mul,Int.zero_add]
 rw [← e]
 exact .rng (by decide) (by decide) ⟨Int.le_trans (by decide) (Int.natCast_nonneg n),Int.ofNat_le.mpr h⟩
theorem qF {n i:Nat} {v:V} (h:((List.range n).map fun i:Nat=>V.int (i:Int))[i]?= some v):i < n∧v=.int i:=by
 rw [List.getElem?_map] at h
 obtain ⟨j,h1,rfl⟩:=Option.map_eq_some_iff.mp h
 obtain ⟨h2,rfl⟩:=List.getElem?_eq_some_iff.mp h1
 rw [List.length_range] at h2
 exact ⟨h2,by rw [List.getElem_range]⟩
theorem aJ {v:V} {st:St} (h:st.H=H) (l:low H.length v):ku (.ret v)=v∧low H.length v∧st.H.take H.length=H:=⟨rfl,l,by rw [h,List.take_length]⟩
theorem jP (a b:Int):eqB (.int a) (.int b)=decide (a=b):=rfl
theorem lR {a:Int}:(!eqB (.int a) (.int a))=false:=by rw [jP,decide_eq_true rfl]; rfl
theorem gY (a:List Nat):eqB (.str a) (.str a)=true:=by
 show ((⟨a.toArray⟩:Str) == ⟨a.toArray⟩)=true
 exact beq_self_eq_true _
theorem df {a b:Int}:Cmp H .NotEq (.int a) (.int b) (!eqB (.int a) (.int b)):=.ne (.self _) (.self _) rfl rfl
theorem wm (F:bO C "_law_whole" ["_law_found"] hV) (n:Int):Calls C (k+1) "_law_whole" [.int n] H (.ok (.bool true)) H:=
 aq F rfl (aP (kT (iv (iT (aa rfl) (.int _) rfl) (iv (lW (iT (aa rfl) (.int _) rfl)) jV))) (aJ rfl trivial))
theorem rk (F:bO C "_law_cell_at" ["_law_script", "_law_k"] eY) (ns:List Int) (j:Nat):Calls C (k+1) "_law_cell_at" [.lst (ns.map .int),.int j] H (.ok (.int (ns.getD j 0))) H:=by
 refine aq F rfl ?_
 by_cases h:j < ns.length
 ·refine bl (ae (aa rfl) (aB (aH (aa rfl)) (.len (.seq (.lst _)))) (.lt _ _) (decide_eq_true (by rw [List.length_map]; exact Int.ofNat_lt.mpr h))) (aP (am (aa rfl) (aa rfl) (.seq (.lst _) (Int.natCast_nonneg j) ?_)) (aF (aJ rfl trivial)))
  rw [Int.toNat_natCast,List.getElem?_map,List.getD_eq_getElem?_getD,List.getElem?_eq_getElem h]; rfl
 ·refine aR (ae (aa rfl) (aB (aH (aa rfl)) (.len (.seq (.lst _)))) (.lt _ _) (decide_eq_false (by rw [List.length_map]; exact fun q=>h (Int.ofNat_lt.mp q)))) (aP (cC ac ?_) (aJ rfl trivial))
  rw [List.getD_eq_getElem?_getD,List.getElem?_eq_none (Nat.le_of_not_lt h)]; rfl
noncomputable def pr (t:Int×Int):V:=.tup [.int t.1,.int t.2]
theorem dl (n:Nat): ∀ ts:List (Int×Int),lows n (ts.map pr)
 | []=>trivial
 | _::r=>⟨⟨trivial,trivial,trivial⟩,dl n r⟩
theorem cz {t:Int×Int}:Idx H (pr t) (.int 0) (.int t.1):=.tup (by decide) rfl
theorem jD {t:Int×Int}:Idx H (pr t) (.int 1) (.int t.2):=.tup (by decide) rfl
end
end
noncomputable section
open PySem
noncomputable def dN:Ss:=
 (.cons (.asg "ahead" (.compIf (.var "thing") "thing" (.var "things") (.cmp .Lt (.idx (.var "thing") (.int 0)) (.var "name"))))
 (.cons (.ret (.bin .Add (.bin .Add (.var "ahead") (.list (.cons (.tup (.cons (.var "name") (.cons (.var "value") .nil))) .nil))) (.compIf (.var "thing") "thing" (.var "things") (.cmp .Gt (.idx (.var "thing") (.int 0)) (.var "name")))))
 .nil))
section
variable {C:Cx} {k:Nat} {H:List HO}
noncomputable def bW (ts:List (Int×Int)) (n v:Int):List (Int×Int):=ts.filter (fun t=>decide (t.1 < n))++[(n,v)]++ts.filter (fun t=>decide (n < t.1))
theorem pj (ts:List (Int×Int)) (n v:Int):(bW ts n v).length≤ts.length+1:=by
 rw [bW,List.length_append,List.length_append,List.length_singleton]
 induction ts with
 | nil=>exact Nat.le_refl _
 | cons t ts ih=>
  rw [List.filter_cons,List.filter_cons]
  by_cases h:t.1 < n
  ·rw [if_pos (decide_eq_true h),if_neg (by rw [decide_eq_false (Int.not_lt.mpr (Int.le_of_lt h))]; exact Bool.false_ne_true)]
   rw [List.length_cons,List.length_cons]; exact li [_,_,_] [([1,0,2],[3,0])] [1,0,0,2] [3,0,0] rfl ih
  ·rw [if_neg (by rw [decide_eq_false h]; exact Bool.false_ne_true),List.length_cons]
   split
   ·rw [List.length_cons]; exact li [_,_,_] [([1,0,2],[3,0])] [1,0,2,0] [3,0,0] rfl ih
   ·exact li [_,_,_] [([1,0,2],[3,0])] [1,0,2] [3,0,0] rfl ih
section
variable {Q:Flow→St→Prop}
theorem pg (ts:List (Int×Int)) (n v:Int) (hl:ts.length≤1000000) {u:V} {st':St}
  (nw:New ((bW ts n v).map pr) ((St.mk (dy ["things", "name", "value"] [.lst (ts.map pr),.int n,.int v]) H).set "ahead" (.lst ((ts.filter fun t=>decide (t.1 < n)).map pr))) u st') (hQ:Q (.ret u) st'):
  wSs (Calls C k) C.glo dN ⟨dy ["things", "name", "value"] [.lst (ts.map pr),.int n,.int v],H⟩ Q noX:=by
 have l1:=List.length_filter_le (fun t:Int×Int=>decide (t.1 < n)) ts
 have l2:=List.length_filter_le (fun t:Int×Int=>decide (n < t.1)) ts
 rw [bW,List.map_append,List.map_append] at nw
 refine aA (cZ (g:=pr) (q:=pr) (p:=fun t=>decide (t.1 < n)) (rs:=ts) (aa rfl) (.lst _) (fun t _=>cM (am (aa rfl) ac cz) (aa rfl) (.lt _ _)) (fun t _ _=>aa rfl) .lst) ?_
 refine aP (fM (fM (aa rfl) (bg (aH (cY (cL (aa rfl) (aa rfl)))) .lst) (.lst _) (.lst _) ?_ .lst)
  (cZ (g:=pr) (q:=pr) (p:=fun t=>decide (n < t.1)) (rs:=ts) (aa rfl) (.lst _) (fun t _=>cM (am (aa rfl) ac cz) (aa rfl) (.gt _ _)) (fun t _ _=>aa rfl) .lst) (.lst _) (.lst _) ?_ nw) hQ
 ·rw [List.length_map,List.length_singleton]; exact lin [_,_] [(1,.v 1,.n 1000000),(1,.v 0,.v 1)] 1 (.a (.v 0) (.n 1)) (.n 16000000) rfl hl l1
 ·rw [List.length_append,List.length_map,List.length_singleton,List.length_map]; exact lin [_,_,_] [(2,.v 2,.n 1000000),(1,.v 0,.v 2),(1,.v 1,.v 2)] 1 (.a (.a (.v 0) (.n 1)) (.v 1)) (.n 16000000) rfl hl l1 l2
end
theorem za (F:bO C "with_thing" ["things", "name", "value"] dN) (ts:List (Int×Int)) (n v:Int) (hl:ts.length≤1000000):
  Calls C (k+1) "with_thing" [.lst (ts.map pr),.int n,.int v] H (.ok (.lst ((bW ts n v).map pr))) H:=aq F rfl (pg ts n v hl .lst (aJ rfl (dl _ _)))
noncomputable def bt (ts us:List (Int×Int)):List (Int×Int):=us.foldl (fun acc t=>bW acc t.1 t.2) ts
theorem qw (us:List (Int×Int)): ∀ ts:List (Int×Int),(bt ts us).length≤ts.length+us.length:=by
 induction us with
 | nil=>exact fun ts=>Nat.le_refl _
 | cons u us ih=>
  intro ts
  have h1:=ih (bW ts u.1 u.2)
  have h2:=pj ts u.1 u.2
  rw [List.length_cons]
  exact Nat.le_trans h1 (by exact li [_,_,_] [([1],[3,0])] [1,2] [3,2,0] rfl h2)
section
variable (H) (ts us:List (Int×Int))
end
end
end
noncomputable section
open PySem
noncomputable def hW:Ss:=
 (.cons (.asg "_law_left" (.bin .Mod (.bin .Add (.bin .Mult (.int 171) (.var "_law_name")) (.int 37)) (.int 256)))
 (.cons (.asg "_law_found" (.str []))
 (.cons (.for_ "_law_worth" (.list (.cons (.int 128) (.cons (.int 64) (.cons (.int 32) (.cons (.int 16) (.cons (.int 8) (.cons (.int 4) (.cons (.int 2) (.cons (.int 1) .nil))))))))) (.cons (.asg "_law_found" (.bin .Add (.var "_law_found") (.blt .str (.cons (.blt .int (.cons (.cmp .GtE (.var "_law_left") (.var "_law_worth")) .nil)) .nil))))
 (.cons (.asg "_law_left" (.bin .Sub (.var "_law_left") (.bin .Mult (.var "_law_worth") (.blt .int (.cons (.cmp .GtE (.var "_law_left") (.var "_law_worth")) .nil)))))
 .nil)))
 (.cons (.ret (.var "_law_found"))
 .nil))))
section
variable {C:Cx} {k:Nat} {H:List HO}
noncomputable def bit (b:Bool):Nat:=bif b then 49 else 48
noncomputable def b01 (b:Bool):Int:=if b then 1 else 0
noncomputable def iI (p:Int×List Nat) (w:Int):Int×List Nat:=(p.1 - w*b01 (decide (w≤p.1)),p.2++[bit (decide (w≤p.1))])
noncomputable def worths:List Int:=[128,64,32,16,8,4,2,1]
noncomputable def oj (m:Int) (i:Nat):Int×List Nat:=(worths.take i).foldl iI (m,[])
noncomputable def sgn (n:Int):List Nat:=(oj ((171*n+37) % 256) 8).2
theorem pN (ws:List Int): ∀ p:Int×List Nat,(∀ c∈p.2,c=48∨c=49)→(ws.foldl iI p).2.length=p.2.length+ws.length∧∀ c∈(ws.foldl iI p).2,c=48∨c=49:=by
 induction ws with
 | nil=>exact fun p h=>⟨rfl,h⟩
 | cons w ws ih=>
  intro p h
  obtain ⟨h1,h2⟩:=ih (iI p w) fun c hc=>by
   rcases List.mem_append.mp hc with hc | hc
   ·exact h c hc
   ·rw [List.mem_singleton.mp hc]
    cases decide (w≤p.1)
    ·exact .inl rfl
    ·exact .inr rfl
  refine ⟨?_,h2⟩
  rw [List.foldl_cons,h1,iI,List.length_append,List.length_singleton,List.length_cons,Nat.add_assoc,Nat.add_comm 1]
theorem pP (m:Int) (i:Nat) (h:i≤8):(oj m i).2.length=i∧∀ c∈(oj m i).2,c=48∨c=49:=by
 obtain ⟨h1,h2⟩:=pN (worths.take i) (m,[]) fun c hc=>by cases hc
 refine ⟨?_,h2⟩
 rw [oj,h1,List.length_take,Nat.min_eq_left (show i≤worths.length from h)]; exact Nat.zero_add i
theorem iV (b:Bool):ao (b01 b)=[bit b]:=by cases b<;>decide
theorem ry (b:Bool):(b01 b).natAbs < 2 ^ 63:=by cases b<;>decide
theorem jf (b:Bool):(b01 b).natAbs < 10 ^ 100:=by cases b<;>decide
theorem wp (F:bO C "_law_signs" ["_law_name"] hW) (n:Int):Calls C (k+1) "_law_signs" [.int n] H (.ok (.str (sgn n))) H:=by
 refine aq F rfl (aA (af (af (af ac (aa rfl) (.mul (.inl (by decide)))) ac (.add _ _)) ac (.mod (by decide))) (aA ag ?_))
 refine ip (items:=worths.map .int) (fun i st=>st.H=H∧st.s "_law_left" =some (.int (oj ((171*n+37) % 256) i).1)∧st.s "_law_found" =some (.str (oj ((171*n+37) % 256) i).2))
  (bg (aK ac (aK ac (aK ac (aK ac (aK ac (aK ac (aK ac (aH ac)))))))) .lst) (.lst _) ⟨rfl,rfl,rfl⟩ ?_ fun st e=>aP (aa e.2.2) (aJ e.1 trivial)
 rintro i w ⟨s,H'⟩ hw ⟨e1,e2,e3⟩ Q' hQ
 have e1:H'=H:=e1
 subst e1
 rw [List.getElem?_map] at hw
 obtain ⟨w,hw',rfl⟩:=Option.map_eq_some_iff.mp hw
 clear hw
 obtain ⟨hi,hw⟩:=List.getElem?_eq_some_iff.mp hw'
 have hi:i < 8:=hi
 have en:oj ((171*n+37) % 256) (i+1)=iI (oj ((171*n+37) % 256) i) w:=by
  rw [oj,List.take_succ_eq_append_getElem (show i < worths.length from hi),List.foldl_append,hw]; rfl
 have hl:=(pP ((171*n+37) % 256) i (Nat.le_of_lt hi)).1
 generalize oj ((171*n+37) % 256) (i+1)=p' at en hQ
 subst en
 generalize oj ((171*n+37) % 256) i=p at e2 e3 hl hQ
 have hd:=iV (decide (w≤p.1))
 refine aA (af (aa (by exact e3)) (aB (aH (aB (aH (cM (aa (by exact e2)) (aa rfl) (.ge _ _))) (.int _))) (.str (jf _))) (.cat ?_)) ?_
 ·show _+(ao (b01 (decide (w≤p.1)))).length≤_
  rw [hd,hl,List.length_singleton]; exact lin [i] [(1,.a (.v 0) (.n 1),.n 8)] 1 (.a (.v 0) (.n 1)) (.n 16000000) rfl hi
 ·refine aA (af (aa (by exact e2)) (af (aa rfl) (aB (aH (cM (aa (by exact e2)) (aa rfl) (.ge _ _))) (.int _)) (.mul (.inr (ry _)))) (.sub _ _)) (bC (hQ _ ⟨rfl,rfl,?_⟩).1)
  show some (V.str (p.2++ao (b01 (decide (w≤p.1)))))=_
  rw [hd]; rfl
theorem bx (a b:List Nat):eqB (.str a) (.str b)=decide (a=b):=by
 show ((⟨a.toArray⟩:Str) == ⟨b.toArray⟩)=_
 rw [Bool.eq_iff_iff,beq_iff_eq,decide_eq_true_eq]
 constructor
 ·intro h
  have h:a.toArray=b.toArray:=congrArg Str.cps h
  exact congrArg Array.toList h
 ·rintro rfl; rfl
theorem vS (a b:Int):leV (.int a) (.int b)=decide (a≤b):=rfl
theorem dX {α:Type} (xs:List α) (n:Nat):slice xs (bM xs.length none) (bQ xs.length (some (n:Int)))=xs.take n:=by
 show (xs.take (cut xs.length n)).drop 0=_
 rw [List.drop_zero,cut,if_neg (by lia),Int.toNat_natCast]
 by_cases h:n≤xs.length
 ·rw [Nat.min_eq_left h]
 ·rw [Nat.min_eq_right (by exact li [_,n] [([1,0],[2])] [1] [2] rfl (l_n h)),List.take_length,List.take_of_length_le (by exact li [_,n] [([1,0],[2])] [1] [2] rfl (l_n h))]
end
end
noncomputable section
open PySem
abbrev Up (ts:List (Int×Int)):Prop:=ts.Pairwise fun a b=>a.1 < b.1
theorem mz {ts:List (Int×Int)} (h:Up ts) (n v:Int):Up (bW ts n v):=by
 have f1: ∀ t∈ts.filter (fun t=>decide (t.1 < n)),t.1 < n:=fun t ht=>of_decide_eq_true (List.mem_filter.mp ht).2
 have f2: ∀ t∈ts.filter (fun t=>decide (n < t.1)),n < t.1:=fun t ht=>of_decide_eq_true (List.mem_filter.mp ht).2
 refine List.pairwise_append.mpr ⟨List.pairwise_append.mpr ⟨h.filter _,List.pairwise_singleton _ _,fun a ha b hb=>?_⟩,h.filter _,fun a ha b hb=>?_⟩
 ·rw [List.mem_singleton.mp hb]; exact f1 a ha
 ·rcases List.mem_append.mp ha with ha | ha
  ·exact Int.lt_trans (f1 a ha) (f2 b hb)
  ·rw [List.mem_singleton.mp ha]; exact f2 b hb
theorem iA {ts:List (Int×Int)} {n v:Int} (h: ∀ t∈ts,t.1≠n):(bW ts n v).Perm (ts++[(n,v)]):=by
 have key:(ts.filter (fun t=>decide (t.1 < n))++ts.filter (fun t=>decide (n < t.1))).Perm ts:=by
  have e:ts.filter (fun t=>decide (n < t.1))=ts.filter (fun t=>!decide (t.1 < n)):=List.filter_congr fun t ht=>by
   have:=h t ht
   by_cases q:t.1 < n
   ·rw [decide_eq_true q,decide_eq_false (Int.not_lt.mpr (Int.le_of_lt q))]; rfl
   ·rw [decide_eq_false q,decide_eq_true (by lia)]; rfl
  rw [e]; exact List.filter_append_perm _ _
 rw [bW,List.append_assoc]
 refine (List.Perm.append_left _ List.perm_append_comm).trans ?_
 rw [← List.append_assoc]
 exact key.append_right _
theorem qv (us:List (Int×Int)): ∀ ts:List (Int×Int),Up ts→(∀ u∈us,∀ t∈ts,t.1≠u.1)→us.Pairwise (fun a b=>a.1≠b.1)→Up (bt ts us)∧(bt ts us).Perm (ts++us):=by
 induction us with
 | nil=>exact fun ts h _ _=>⟨h,by rw [List.append_nil]; exact .refl _⟩
 | cons u us ih=>
  intro ts h1 h2 h3
  have pw:=iA (v:=u.2) (h2 u List.mem_cons_self)
  obtain ⟨h4,h5⟩:=ih (bW ts u.1 u.2) (mz h1 _ _) (fun w hw t ht=>by
   rcases List.mem_append.mp (pw.subset ht) with q | q
   ·exact h2 w (List.mem_cons_of_mem _ hw) t q
   ·rw [List.mem_singleton.mp q]; exact (List.pairwise_cons.mp h3).1 w hw) (List.pairwise_cons.mp h3).2
  refine ⟨h4,h5.trans ?_⟩
  have:=pw.append_right us
  rw [List.append_assoc] at this
  exact this
theorem yN {a b:Int×Int} (h:a.1 < b.1):leV (pr a) (pr b)=true:=by
 show (if eqB (.int a.1) (.int b.1) then _ else leV (.int a.1) (.int b.1))=true
 rw [jP,decide_eq_false (fun e=>by rw [e] at h; exact Int.lt_irrefl _ h),if_neg Bool.false_ne_true,vS]
 exact decide_eq_true (Int.le_of_lt h)
end
noncomputable section
open PySem
noncomputable def sAt (n:Int) (i:Nat):Nat:=(sgn n).getD i 0
theorem mE (n:Int):(sgn n).length=8∧∀ c∈sgn n,c=48∨c=49:=pP _ 8 (Nat.le_refl _)
theorem gF (n:Int) {i:Nat} (h:i < 8):(sgn n)[((i:Nat):Int).toNat]?= some (sAt n i):=by
 have h':i < (sgn n).length:=(mE n).1▸h
 rw [Int.toNat_natCast,sAt,List.getD_eq_getElem?_getD,List.getElem?_eq_getElem h']; rfl
theorem uT (n:Int) {i:Nat} (h:i < 8):sAt n i=48∨sAt n i=49:=(mE n).2 _ (List.mem_of_getElem? (gF n h))
theorem jO (a b:Nat):eqB (.str [a]) (.str [b])=decide (a=b):=by
 rw [bx,Bool.eq_iff_iff,decide_eq_true_eq,decide_eq_true_eq]
 exact ⟨fun h=>(List.cons.inj h).1,fun h=>h▸rfl⟩
noncomputable def half (i c:Nat) (ts:List (Int×Int)):List (Int×Int):=ts.filter fun t=>decide (sAt t.1 i=c)
end
noncomputable section
abbrev Ts:=List (Int×Int)
abbrev Rm:=List Nat×Ts
noncomputable def eo (b:Nat):Nat→List Nat→Ts→List Rm
 | 0=>fun bs ts=>[(bs,ts)]
 | n+1=>fun bs ts=>if ts.length≤b then [(bs,ts)] else eo b n (bs++[48]) (half bs.length 48 ts)++eo b n (bs++[49]) (half bs.length 49 ts)
theorem gS {b n:Nat} {bs:List Nat} {ts:Ts} (h:ts.length≤b):eo b n bs ts=[(bs,ts)]:=by
 cases n with
 | zero=>rfl
 | succ n=>exact if_pos h
theorem kK {b n:Nat} {bs:List Nat} {ts:Ts} (h: ¬ ts.length≤b):eo b (n+1) bs ts=eo b n (bs++[48]) (half bs.length 48 ts)++eo b n (bs++[49]) (half bs.length 49 ts):=if_neg h
theorem cK {b:Nat} {P:Nat→List Nat→Ts→List Rm→Prop} (h0: ∀ bs ts,P 0 bs ts [(bs,ts)]) (h1: ∀ n bs ts,ts.length≤b→P (n+1) bs ts [(bs,ts)])
  (h2: ∀ n bs ts x y,¬ ts.length≤b→x=eo b n (bs++[48]) (half bs.length 48 ts)→y=eo b n (bs++[49]) (half bs.length 49 ts)→P n (bs++[48]) (half bs.length 48 ts) x→P n (bs++[49]) (half bs.length 49 ts) y→P (n+1) bs ts (x++y)): ∀ n bs ts,P n bs ts (eo b n bs ts):=by
 intro n
 induction n with
 | zero=>exact h0
 | succ n ih=>
  intro bs ts
  by_cases h:ts.length≤b
  ·rw [gS h]; exact h1 n bs ts h
  ·rw [kK h]; exact h2 n bs ts _ _ h rfl rfl (ih _ _) (ih _ _)
theorem mM {bs w:List Nat} {c:Nat} (h:bs++[c] <+: w):bs <+: w:=(List.prefix_append bs [c]).trans h
theorem gd {b:Nat}: ∀ n bs ts,∀ x∈eo b n bs ts,bs <+: x.1:=
 cK (P:=fun _ bs _ l=>∀ x∈l,bs <+: x.1) (fun bs ts x h=>by rw [List.mem_singleton.mp h]; exact List.prefix_refl _) (fun n bs ts _ x h=>by rw [List.mem_singleton.mp h]; exact List.prefix_refl _)
  fun n bs ts x y _ _ _ h1 h2 z hz=>(List.mem_append.mp hz).elim (fun q=>mM (h1 z q)) fun q=>mM (h2 z q)
theorem kM {b:Nat}: ∀ n bs ts,(∀ c∈bs,c=48∨c=49)→∀ x∈eo b n bs ts,x.1.length≤bs.length+n∧∀ c∈x.1,c=48∨c=49:=by
 refine cK (P:=fun n bs _ l=>(∀ c∈bs,c=48∨c=49)→∀ x∈l,x.1.length≤bs.length+n∧∀ c∈x.1,c=48∨c=49) (fun bs ts hc x h=>?_) (fun n bs ts _ hc x h=>?_) fun n bs ts x y _ _ _ h1 h2 hc z hz=>?_
 ·rw [List.mem_singleton.mp h]; exact ⟨Nat.le_refl _,hc⟩
 ·rw [List.mem_singleton.mp h]; exact ⟨Nat.le_add_right _ _,hc⟩
 ·have key: ∀ d,(d=48∨d=49)→∀ c∈bs++[d],c=48∨c=49:=fun d hd c h=>(List.mem_append.mp h).elim (hc c) fun q=>by rw [List.mem_singleton.mp q]; exact hd
  rcases List.mem_append.mp hz with q | q
  ·have:=h1 (key 48 (.inl rfl)) z q
   rw [List.length_append,List.length_singleton] at this
   exact ⟨by exact li [_,_,n] [([1],[2,0,3])] [1] [2,3,0] rfl this.1,this.2⟩
  ·have:=h2 (key 49 (.inr rfl)) z q
   rw [List.length_append,List.length_singleton] at this
   exact ⟨by exact li [_,_,n] [([1],[2,0,3])] [1] [2,3,0] rfl this.1,this.2⟩
noncomputable def tP (a b:List Nat):Prop:=∃ p r r',a=p++48::r∧b=p++49::r'
theorem qD {b:Nat}: ∀ n bs ts,(eo b n bs ts).Pairwise fun x y=>tP x.1 y.1:=by
 refine cK (P:=fun _ _ _ l=>l.Pairwise fun x y=>tP x.1 y.1) (fun _ _=>List.pairwise_singleton _ _) (fun _ _ _ _=>List.pairwise_singleton _ _) fun n bs ts x y _ hx hy h1 h2=>?_
 refine List.pairwise_append.mpr ⟨h1,h2,fun u hu v hv=>?_⟩
 subst hx hy
 obtain ⟨r,hr⟩:=gd _ _ _ u hu
 obtain ⟨r',hr'⟩:=gd _ _ _ v hv
 exact ⟨bs,r,r',by rw [← hr,List.append_assoc]; rfl,by rw [← hr',List.append_assoc]; rfl⟩
theorem tP.not_pre {a b w:List Nat} (h:tP a b) (ha:a <+: w) (hb:b <+: w):False:=by
 obtain ⟨p,r,r',rfl,rfl⟩:=h
 obtain ⟨u,hu⟩:=ha
 obtain ⟨v,hv⟩:=hb
 rw [← hv,List.append_assoc,List.append_assoc] at hu
 have:=List.append_cancel_left hu
 cases this
theorem tP.ne {a b:List Nat} (h:tP a b):a≠b:=fun e=>h.not_pre (w:=b) (e▸List.prefix_refl _) (List.prefix_refl _)
theorem tP.lt {a b:List Nat} (h:tP a b):a < b:=by
 obtain ⟨p,r,r',rfl,rfl⟩:=h
 induction p with
 | nil=>exact List.cons_lt_cons_iff.mpr (.inl (by decide))
 | cons c p ih=>exact List.cons_lt_cons_iff.mpr (.inr ⟨rfl,ih⟩)
theorem pS {n:Int} {bs:List Nat} (h:bs <+: sgn n) (hl:bs.length < 8) (c:Nat):sAt n bs.length=c ↔ bs++[c] <+: sgn n:=by
 obtain ⟨r,hr⟩:=h
 cases r with
 | nil=>rw [List.append_nil] at hr; have:=(mE n).1; rw [← hr] at this; exact (l_z (lin [_] [(1,.a (.v 0) (.n 1),.n 8),(1,.n 8,.v 0)] 0 (.n 1) (.n 0) rfl hl (l_s this))).elim
 | cons d r=>
  have e:sAt n bs.length=d:=by rw [sAt,List.getD_eq_getElem?_getD,← hr,List.getElem?_append_right (Nat.le_refl _),Nat.sub_self]; rfl
  rw [e,← hr,List.prefix_append_right_inj,List.singleton_prefix_cons_iff]
  exact eq_comm
noncomputable def InP (bs:List Nat) (ts:Ts):Prop:=∀ t∈ts,bs <+: sgn t.1
theorem fv {bs:List Nat} {ts:Ts} (h:InP bs ts) (hl:bs.length < 8) (c:Nat):InP (bs++[c]) (half bs.length c ts):=fun t ht=>
 (pS (h t (List.mem_filter.mp ht).1) hl c).mp (of_decide_eq_true (List.mem_filter.mp ht).2)
noncomputable def at_ (bs:List Nat) (ts:Ts):Ts:=ts.filter fun t=>bs.isPrefixOf (sgn t.1)
theorem rz {bs:List Nat} {ts:Ts} (h:InP bs ts):at_ bs ts=ts:=List.filter_eq_self.mpr fun t ht=>List.isPrefixOf_iff_prefix.mpr (h t ht)
theorem rB {bs x:List Nat} {ts:Ts} (h:InP bs ts) (hl:bs.length < 8) {c:Nat} (hx:bs++[c] <+: x):at_ x (half bs.length c ts)=at_ x ts:=by
 rw [at_,at_,half,List.filter_filter]
 refine List.filter_congr fun t ht=>?_
 by_cases q:x <+: sgn t.1
 ·rw [List.isPrefixOf_iff_prefix.mpr q,decide_eq_true ((pS (h t ht) hl c).mpr (hx.trans q))]; rfl
 ·rw [Bool.eq_false_iff.mpr fun z=>q (List.isPrefixOf_iff_prefix.mp z)]; rfl
theorem vX {b:Nat}: ∀ n bs ts,bs.length+n=8→InP bs ts→∀ x∈eo b n bs ts,x.2=at_ x.1 ts:=by
 refine cK (P:=fun n bs ts l=>bs.length+n=8→InP bs ts→∀ x∈l,x.2=at_ x.1 ts) (fun bs ts _ hi x h=>?_) (fun n bs ts _ _ hi x h=>?_) fun n bs ts x y _ hx hy h1 h2 hl hi z hz=>?_
 ·rw [List.mem_singleton.mp h,rz hi]
 ·rw [List.mem_singleton.mp h,rz hi]
 ·have hl':bs.length < 8:=by exact lin [_,n] [(1,.a (.v 0) (.a (.v 1) (.n 1)),.n 8)] 1 (.a (.v 0) (.n 1)) (.n 8) rfl (l_e hl)
  subst hx hy
  rcases List.mem_append.mp hz with q | q
  ·rw [h1 (by rw [List.length_append,List.length_singleton]; exact l_a (lin [_,n] [(1,.a (.v 0) (.a (.v 1) (.n 1)),.n 8)] 1 (.a (.a (.v 0) (.n 1)) (.v 1)) (.n 8) rfl (l_e hl)) (lin [_,n] [(1,.n 8,.a (.v 0) (.a (.v 1) (.n 1)))] 1 (.n 8) (.a (.a (.v 0) (.n 1)) (.v 1)) rfl (l_s hl))) (fv hi hl' _) z q,rB hi hl' (gd _ _ _ z q)]
  ·rw [h2 (by rw [List.length_append,List.length_singleton]; exact l_a (lin [_,n] [(1,.a (.v 0) (.a (.v 1) (.n 1)),.n 8)] 1 (.a (.a (.v 0) (.n 1)) (.v 1)) (.n 8) rfl (l_e hl)) (lin [_,n] [(1,.n 8,.a (.v 0) (.a (.v 1) (.n 1)))] 1 (.n 8) (.a (.a (.v 0) (.n 1)) (.v 1)) rfl (l_s hl))) (fv hi hl' _) z q,rB hi hl' (gd _ _ _ z q)]
theorem qC {i:Nat} (h:i < 8) (ts:Ts):(half i 48 ts++half i 49 ts).Perm ts:=by
 have e:half i 49 ts=ts.filter fun t=>!decide (sAt t.1 i=48):=List.filter_congr fun t _=>by
  rcases uT t.1 h with q | q<;>rw [q]<;>rfl
 rw [e]; exact List.filter_append_perm _ _
theorem kJ {b:Nat}: ∀ n bs ts,bs.length+n=8→((eo b n bs ts).flatMap (·.2)).Perm ts:=by
 refine cK (P:=fun n bs ts l=>bs.length+n=8→(l.flatMap (·.2)).Perm ts) (fun bs ts _=>?_) (fun n bs ts _ _=>?_) fun n bs ts x y _ _ _ h1 h2 hl=>?_
 ·rw [List.flatMap_singleton]
 ·rw [List.flatMap_singleton]
 ·rw [List.flatMap_append]
  exact ((h1 (by rw [List.length_append,List.length_singleton]; exact l_a (lin [_,n] [(1,.a (.v 0) (.a (.v 1) (.n 1)),.n 8)] 1 (.a (.a (.v 0) (.n 1)) (.v 1)) (.n 8) rfl (l_e hl)) (lin [_,n] [(1,.n 8,.a (.v 0) (.a (.v 1) (.n 1)))] 1 (.n 8) (.a (.a (.v 0) (.n 1)) (.v 1)) rfl (l_s hl)))).append (h2 (by rw [List.length_append,List.length_singleton]; exact l_a (lin [_,n] [(1,.a (.v 0) (.a (.v 1) (.n 1)),.n 8)] 1 (.a (.a (.v 0) (.n 1)) (.v 1)) (.n 8) rfl (l_e hl)) (lin [_,n] [(1,.n 8,.a (.v 0) (.a (.v 1) (.n 1)))] 1 (.n 8) (.a (.a (.v 0) (.n 1)) (.v 1)) rfl (l_s hl))))).trans (qC (by exact lin [_,n] [(1,.a (.v 0) (.a (.v 1) (.n 1)),.n 8)] 1 (.a (.v 0) (.n 1)) (.n 8) rfl (l_e hl)) ts)
theorem gR {b:Nat}: ∀ n bs ts,eo b n bs ts≠[]:=cK (P:=fun _ _ _ l=>l≠[]) (fun _ _ h=>nomatch h) (fun _ _ _ _ h=>nomatch h) fun n bs ts x y _ _ _ h1 _ h=>h1 (List.append_eq_nil_iff.mp h).1
noncomputable def numOf (cs:List Nat):Nat:=cs.foldl (fun a c=>2*a+(c - 48)) 0
theorem vK: ∀ m:Nat,m < 256→numOf (oj m 8).2=m:=by decide +kernel
theorem qj (n:Int):(numOf (sgn n):Int)=(171*n+37) % 256:=by
 have h0:0≤(171*n+37) % 256:=Int.emod_nonneg _ (by decide)
 have h1:(171*n+37) % 256 < 256:=Int.emod_lt_of_pos _ (by decide)
 have:=vK ((171*n+37) % 256).toNat (by lia)
 rw [Int.toNat_of_nonneg h0] at this
 rw [sgn,this,Int.toNat_of_nonneg h0]
theorem uD {a b:Int} (h0:0≤a) (h1:a≤255) (h2:0≤b) (h3:b≤255) (e:sgn a=sgn b):a=b:=by
 have x:=qj a
 have y:=qj b
 rw [e,y] at x
 omega
structure Ok (ts:Ts):Prop where
 up:Up ts
 low: ∀ t∈ts,0≤t.1∧t.1≤255
theorem Ok.half {ts:Ts} (h:Ok ts) (i c:Nat):Ok (half i c ts):=⟨h.up.filter _,fun t ht=>h.low t (List.mem_filter.mp ht).1⟩
theorem Ok.one {ts:Ts} (h:Ok ts) {bs:List Nat} (hl:bs.length=8) (hi:InP bs ts):ts.length≤1:=by
 have key: ∀ n:Int,bs <+: sgn n→bs=sgn n:=fun n q=>q.eq_of_length (by rw [hl,(mE n).1])
 match ts,h,hi with
 | [],_,_=>exact Nat.zero_le _
 | [_],_,_=>exact Nat.le_refl _
 | a::b::_,h,hi=>
  have ha:=h.low a List.mem_cons_self
  have hb:=h.low b (List.mem_cons_of_mem _ List.mem_cons_self)
  have e:=uD ha.1 ha.2 hb.1 hb.2 ((key a.1 (hi a List.mem_cons_self)).symm.trans (key b.1 (hi b (List.mem_cons_of_mem _ List.mem_cons_self))))
  have:=(List.pairwise_cons.mp h.up).1 b List.mem_cons_self
  lia
theorem sJ {b:Nat} (hb:1≤b): ∀ n bs ts,bs.length+n=8→InP bs ts→Ok ts→∀ x∈eo b n bs ts,x.2.length≤b:=by
 refine cK (P:=fun n bs ts l=>bs.length+n=8→InP bs ts→Ok ts→∀ x∈l,x.2.length≤b) (fun bs ts hl hi ho x h=>?_) (fun n bs ts hlen _ hi ho x h=>?_) fun n bs ts x y _ _ _ h1 h2 hl hi ho z hz=>?_
 ·rw [List.mem_singleton.mp h]; exact Nat.le_trans (ho.one hl hi) hb
 ·rw [List.mem_singleton.mp h]; exact hlen
 ·have hl':bs.length < 8:=by exact lin [_,n] [(1,.a (.v 0) (.a (.v 1) (.n 1)),.n 8)] 1 (.a (.v 0) (.n 1)) (.n 8) rfl (l_e hl)
  rcases List.mem_append.mp hz with q | q
  ·exact h1 (by rw [List.length_append,List.length_singleton]; exact l_a (lin [_,n] [(1,.a (.v 0) (.a (.v 1) (.n 1)),.n 8)] 1 (.a (.a (.v 0) (.n 1)) (.v 1)) (.n 8) rfl (l_e hl)) (lin [_,n] [(1,.n 8,.a (.v 0) (.a (.v 1) (.n 1)))] 1 (.n 8) (.a (.a (.v 0) (.n 1)) (.v 1)) rfl (l_s hl))) (fv hi hl' _) (ho.half _ _) z q
  ·exact h2 (by rw [List.length_append,List.length_singleton]; exact l_a (lin [_,n] [(1,.a (.v 0) (.a (.v 1) (.n 1)),.n 8)] 1 (.a (.a (.v 0) (.n 1)) (.v 1)) (.n 8) rfl (l_e hl)) (lin [_,n] [(1,.n 8,.a (.v 0) (.a (.v 1) (.n 1)))] 1 (.n 8) (.a (.a (.v 0) (.n 1)) (.v 1)) rfl (l_s hl))) (fv hi hl' _) (ho.half _ _) z q
theorem oy {b:Nat}: ∀ n bs ts,bs.length+n=8→((eo b n bs ts).map fun x=>2 ^ (8 - x.1.length)).sum=2 ^ n:=by
 refine cK (P:=fun n bs ts l=>bs.length+n=8→(l.map fun x=>2 ^ (8 - x.1.length)).sum=2 ^ n) (fun bs ts hl=>?_) (fun n bs ts _ hl=>?_) fun n bs ts x y _ _ _ h1 h2 hl=>?_
 ·rw [List.map_singleton,List.sum_singleton,show 8 - bs.length=0 by exact l_a (lin [_,_] [(1,.n 8,.a (.v 1) (.n 0)),(1,.a (.v 0) (.v 1),.n 8)] 1 (.v 0) (.n 0) rfl (l_s hl) (l_d (lin [_] [(1,.a (.v 0) (.n 0),.n 8)] 1 (.v 0) (.n 8) rfl (l_e hl)))) (li [_] [] [] [1] rfl )]
 ·rw [List.map_singleton,List.sum_singleton,show 8 - bs.length=n+1 by exact l_a (lin [_,n,_] [(1,.n 8,.a (.v 2) (.a (.v 1) (.n 1))),(1,.a (.v 0) (.v 2),.n 8)] 1 (.v 0) (.a (.v 1) (.n 1)) rfl (l_s hl) (l_d (lin [_,n] [(1,.a (.v 0) (.a (.v 1) (.n 1)),.n 8)] 1 (.v 0) (.n 8) rfl (l_e hl)))) (lin [n,_,_] [(1,.a (.v 2) (.a (.v 0) (.n 1)),.n 8),(1,.n 8,.a (.v 1) (.v 2))] 1 (.a (.v 0) (.n 1)) (.v 1) rfl (l_e hl) (l_g _ _))]
 ·rw [List.map_append,List.sum_append_nat,h1 (by rw [List.length_append,List.length_singleton]; exact l_a (lin [_,n] [(1,.a (.v 0) (.a (.v 1) (.n 1)),.n 8)] 1 (.a (.a (.v 0) (.n 1)) (.v 1)) (.n 8) rfl (l_e hl)) (lin [_,n] [(1,.n 8,.a (.v 0) (.a (.v 1) (.n 1)))] 1 (.n 8) (.a (.a (.v 0) (.n 1)) (.v 1)) rfl (l_s hl))),h2 (by rw [List.length_append,List.length_singleton]; exact l_a (lin [_,n] [(1,.a (.v 0) (.a (.v 1) (.n 1)),.n 8)] 1 (.a (.a (.v 0) (.n 1)) (.v 1)) (.n 8) rfl (l_e hl)) (lin [_,n] [(1,.n 8,.a (.v 0) (.a (.v 1) (.n 1)))] 1 (.n 8) (.a (.a (.v 0) (.n 1)) (.v 1)) rfl (l_s hl))),Nat.pow_succ]; lia
noncomputable def aw (b:Nat) (ts:Ts):List Rm:=eo b 8 [] ts
theorem nt (ts:Ts):InP [] ts:=fun _ _=>List.nil_prefix
noncomputable def cf (b:Nat) (w:List Rm):List Rm:=w.flatMap fun x=>eo b (8 - x.1.length) x.1 x.2
noncomputable def cv (b:Nat) (w:List Rm):Nat:=(w.map fun x=>2*(eo b (8 - x.1.length) x.1 x.2).length - 1).sum
noncomputable def WOk (x:Rm):Prop:=x.1.length≤8∧InP x.1 x.2∧Ok x.2
theorem WOk.split {x:Rm} {b:Nat} (hb:1≤b) (h:WOk x) (hx: ¬ x.2.length≤b):x.1.length < 8∧WOk (x.1++[48],half x.1.length 48 x.2)∧WOk (x.1++[49],half x.1.length 49 x.2)∧
  eo b (8 - x.1.length) x.1 x.2=eo b (8 - (x.1++[48]).length) (x.1++[48]) (half x.1.length 48 x.2)++eo b (8 - (x.1++[49]).length) (x.1++[49]) (half x.1.length 49 x.2):=by
 obtain ⟨h1,h2,h3⟩:=h
 have hl:x.1.length < 8:=Nat.lt_of_le_of_ne h1 fun e=>hx (Nat.le_trans (h3.one e h2) hb)
 refine ⟨hl,⟨by simp; exact lin [_] [(1,.a (.v 0) (.n 1),.n 8)] 1 (.v 0) (.n 7) rfl hl,fv h2 hl _,h3.half _ _⟩,⟨by simp; exact lin [_] [(1,.a (.v 0) (.n 1),.n 8)] 1 (.v 0) (.n 7) rfl hl,fv h2 hl _,h3.half _ _⟩,?_⟩
 rw [List.length_append,List.length_singleton,List.length_append,List.length_singleton,← kK hx,show 8 - (x.1.length+1)+1=8 - x.1.length by exact l_a (lin [_,_,_] [(1,.a (.v 0) (.a (.v 2) (.n 1)),.n 8),(1,.n 8,.a (.v 1) (.v 2))] 1 (.a (.v 0) (.n 1)) (.v 1) rfl (l_d (hl)) (l_g _ _)) (lin [_,_,_] [(1,.n 8,.a (.v 1) (.a (.v 2) (.n 1))),(1,.a (.v 0) (.v 2),.n 8)] 1 (.v 0) (.a (.v 1) (.n 1)) rfl (l_g _ _) (l_d (h1)))]
theorem iB {b:Nat} {w:List Rm} {x:Rm} (h:x.2.length≤b):cv b (w++[x])=cv b w+1∧cf b (w++[x])=cf b w++[x]:=by
 constructor
 ·rw [cv,List.map_append,List.sum_append_nat,List.map_singleton,List.sum_singleton,gS h]; rfl
 ·rw [cf,List.flatMap_append,List.flatMap_singleton,gS h]; rfl
theorem iC {b:Nat} (hb:1≤b) {w:List Rm} {x:Rm} (hx:WOk x) (h: ¬ x.2.length≤b):cv b (w++[x])=cv b (w++[(x.1++[48],half x.1.length 48 x.2),(x.1++[49],half x.1.length 49 x.2)])+1∧
  cf b (w++[x])=cf b (w++[(x.1++[48],half x.1.length 48 x.2),(x.1++[49],half x.1.length 49 x.2)]):=by
 obtain ⟨hl,h1,h2,e⟩:=hx.split hb h
 have ne: ∀ n bs ts,1≤(eo b n bs ts).length:=fun n bs ts=>List.length_pos_iff.mpr (gR n bs ts)
 constructor
 ·rw [cv,cv,List.map_append,List.map_append,List.sum_append_nat,List.sum_append_nat,List.map_singleton,List.sum_singleton,List.map_cons,List.sum_cons,List.map_singleton,List.sum_singleton,e,List.length_append]
  have:=ne (8 - (x.1++[48]).length) (x.1++[48]) (half x.1.length 48 x.2)
  have:=ne (8 - (x.1++[49]).length) (x.1++[49]) (half x.1.length 49 x.2)
  simp only at*
  exact l_a (lin [_,_,_,_,_,_] [(1,.a (.v 1) (.n 1),.m 2 (.a (.v 4) (.v 5))),(1,.m 2 (.v 4),.a (.v 2) (.n 1)),(1,.m 2 (.v 5),.a (.v 3) (.n 1))] 1 (.a (.v 0) (.v 1)) (.a (.a (.v 0) (.a (.v 2) (.v 3))) (.n 1)) rfl (l_d (lin [_,_] [(2,.n 1,.v 1)] 1 (.n 1) (.m 2 (.a (.v 0) (.v 1))) rfl this)) (l_g _ _) (l_g _ _)) (lin [_,_,_,_,_,_] [(1,.m 2 (.a (.v 4) (.v 5)),.a (.v 3) (.n 1)),(1,.a (.v 1) (.n 1),.m 2 (.v 4)),(1,.a (.v 2) (.n 1),.m 2 (.v 5))] 1 (.a (.a (.v 0) (.a (.v 1) (.v 2))) (.n 1)) (.a (.v 0) (.v 3)) rfl (l_g _ _) (l_d (lin [_] [(2,.n 1,.v 0)] 1 (.n 1) (.m 2 (.v 0)) rfl (by assumption))) (l_d (lin [_] [(2,.n 1,.v 0)] 1 (.n 1) (.m 2 (.v 0)) rfl this)))
 ·rw [cf,cf,List.flatMap_append,List.flatMap_append,List.flatMap_singleton,List.flatMap_cons,List.flatMap_singleton,e]
end
noncomputable section
theorem cu (m:Nat):ao (m:Int)=(Nat.toDigits 10 m).map Char.toNat:=by
 show (Nat.repr m).toList.map Char.toNat=_
 rw [Nat.toList_repr]
theorem fx (m:Nat):ao (Int.negSucc m)=45::ao ((m+1:Nat):Int):=by
 rw [cu]
 show ("-" ++Nat.repr (m+1)).toList.map Char.toNat=_
 rw [String.toList_append,Nat.toList_repr,List.map_append]; rfl
theorem eg (m:Nat):oJ (ao (m:Int)):=fun c hc=>by
 rw [cu] at hc
 obtain ⟨ch,h1,rfl⟩:=List.mem_map.mp hc
 have:=Nat.isDigit_of_mem_toDigits (by decide) (by decide) h1
 simp [Char.isDigit,UInt32.le_iff_toNat_le] at this
 exact this
theorem hF (m:Nat):ao (m:Int)≠[]:=by
 rw [cu]
 intro e
 have:=Nat.length_toDigits_pos (b:=10) (n:=m)
 rw [List.map_eq_nil_iff.mp e] at this
 exact absurd this (by decide)
theorem qT (cs:List Nat) (c:Nat):oU (cs++[c])=oU cs*10+(c - 48):=by rw [oU,List.foldl_append]; rfl
theorem eT: ∀ d:Nat,d < 10→(Nat.digitChar d).toNat=48+d:=by decide
theorem gZ (m:Nat):oU (ao (m:Int))=m:=by
 induction m using Nat.strongRecOn with
 | _ m ih=>
  rw [cu]
  by_cases h:m < 10
  ·rw [Nat.toDigits_of_lt_base h,List.map_singleton,eT m h]
   show 0*10+(48+m - 48)=m
   exact l_a (lin [_,m] [(1,.a (.v 0) (.n 48),.a (.n 48) (.v 1))] 1 (.a (.m 0 (.n 10)) (.v 0)) (.v 1) rfl (l_d (lin [m] [] 1 (.n 48) (.a (.n 48) (.v 0)) rfl ))) (lin [m,_] [(1,.a (.n 48) (.v 0),.a (.v 1) (.n 48))] 1 (.v 0) (.a (.m 0 (.n 10)) (.v 1)) rfl (l_g _ _))
  ·have e:m=10*(m / 10)+m % 10:=(Nat.div_add_mod m 10).symm
   have hd:0 < m / 10:=by lia
   have hm:m % 10 < 10:=Nat.mod_lt _ (by decide)
   have:=ih (m / 10) (by exact lin [_,m,_] [(9,.n 10,.v 1),(1,.a (.m 10 (.v 0)) (.v 2),.v 1)] 10 (.a (.v 0) (.n 1)) (.v 1) rfl (l_t h) (l_s e))
   rw [cu] at this
   rw [e,← Nat.toDigits_append_toDigits (by decide) hd hm,List.map_append,Nat.toDigits_of_lt_base hm,List.map_singleton,qT,this,eT _ hm]
   lia
theorem bS {m k:Nat} (hk:0 < k) (h:m < 10 ^ k):(ao (m:Int)).length≤k:=by
 rw [cu,List.length_map]
 exact (Nat.length_toDigits_le_iff (by decide) hk).mpr h
theorem lZ (i:Int): ∀ c∈ao i,c=45∨(48≤c∧c≤57):=by
 cases i with
 | ofNat m=>exact fun c h=>.inr (eg m c h)
 | negSucc m=>
  intro c h
  rw [fx] at h
  rcases List.mem_cons.mp h with h | h
  ·exact .inl h
  ·exact .inr (eg (m+1) c h)
noncomputable def bV (t:Int×Int):List Nat:=ao t.1++61::ao t.2
noncomputable def ij (x:Rm):List Nat:=x.1++58::x.2.flatMap fun t=>32::bV t
noncomputable def bZ (b:Nat):List Nat:=[98,111,117,110,100,32]++ao (b:Int)
noncomputable def dw (b:Nat) (ts:Ts):List (List Nat):=bZ b::(aw b ts).map ij
noncomputable def ci (b:Nat) (ts:Ts):List Nat:=aN [10] (dw b ts)
theorem gB {i:Int} {c d:Nat} (h:c∈ao i) (hd:d=10∨d=32∨d=61∨d=58):d≠c:=fun e=>by
 have:=lZ i c h
 lia
theorem kc {t:Int×Int} {d:Nat} (hd:d=10∨d=32∨d=58):d ∉ bV t:=fun h=>by
 rcases List.mem_append.mp h with h | h
 ·exact gB h (by lia) rfl
 ·rcases List.mem_cons.mp h with h | h
  ·lia
  ·exact gB h (by lia) rfl
theorem si {x:Rm} (hx: ∀ c∈x.1,c=48∨c=49):10 ∉ ij x:=fun h=>by
 rcases List.mem_append.mp h with h | h
 ·have:=hx 10 h; exact this.elim (fun q=>l_z (lin [] [(1,.n 48,.n 10)] 0 (.n 1) (.n 0) rfl (l_s q))) (fun q=>l_z (lin [] [(1,.n 49,.n 10)] 0 (.n 1) (.n 0) rfl (l_s q)))
 ·rcases List.mem_cons.mp h with h | h
  ·exact l_z (lin [] [(1,.n 58,.n 10)] 0 (.n 1) (.n 0) rfl (l_s h))
  ·obtain ⟨t,_,h⟩:=List.mem_flatMap.mp h
   rcases List.mem_cons.mp h with h | h
   ·exact l_z (lin [] [(1,.n 32,.n 10)] 0 (.n 1) (.n 0) rfl (l_s h))
   ·exact kc (.inl rfl) h
theorem oE (b:Nat):10 ∉ bZ b:=fun h=>by
 rcases List.mem_append.mp h with h | h
 ·revert h; decide
 ·exact gB h (.inl rfl) rfl
theorem gG (b:Nat) (ts:Ts): ∀ r∈dw b ts,10 ∉ r:=fun r h=>by
 rcases List.mem_cons.mp h with rfl | h
 ·exact oE b
 ·obtain ⟨x,h1,rfl⟩:=List.mem_map.mp h
  exact si (kM _ _ _ (fun c h=>by cases h) x h1).2
noncomputable def eE (x:Rm):List (List Nat):=(x.1++[58])::x.2.map bV
theorem eG (x:Rm):aN [32] (eE x)=ij x:=by
 rw [eE,aN,ij,List.flatMap_map,List.append_assoc]; rfl
theorem iy {x:Rm} (hx: ∀ c∈x.1,c=48∨c=49): ∀ r∈eE x,32 ∉ r:=fun r h q=>by
 rcases List.mem_cons.mp h with rfl | h
 ·rcases List.mem_append.mp q with q | q
  ·have:=hx 32 q; exact this.elim (fun q=>l_z (lin [] [(1,.n 48,.n 32)] 0 (.n 1) (.n 0) rfl (l_s q))) (fun q=>l_z (lin [] [(1,.n 49,.n 32)] 0 (.n 1) (.n 0) rfl (l_s q)))
  ·rw [List.mem_singleton] at q; exact l_z (lin [] [(1,.n 58,.n 32)] 0 (.n 1) (.n 0) rfl (l_s q))
 ·obtain ⟨t,_,rfl⟩:=List.mem_map.mp h
  exact kc (.inr (.inl rfl)) q
theorem iz (t:Int×Int):aN [61] [ao t.1,ao t.2]=bV t:=by simp [aN,bV]
theorem iK (t:Int×Int): ∀ r∈[ao t.1,ao t.2],61 ∉ r:=fun r h q=>by
 rcases List.mem_cons.mp h with rfl | h
 ·exact gB q (by lia) rfl
 ·rw [List.mem_singleton.mp h] at q
  exact gB q (by lia) rfl
theorem pn {ts us:Ts} (h1:Up ts) (h2:Up us) (p:ts.Perm us):ts=us:=
 p.eq_of_pairwise (le:=fun a b=>a.1 < b.1) (fun a b _ _ q1 q2=>absurd (Int.lt_trans q1 q2) (Int.lt_irrefl _)) h1 h2
theorem qK {b:Nat} {ts:Ts} (h:Up ts):((aw b ts).flatMap (·.2)).Pairwise fun x y=>x.1≠y.1:=
 (kJ (b:=b) 8 [] ts rfl).symm.pairwise (h.imp fun q e=>by rw [e] at q; exact Int.lt_irrefl _ q) (fun h e=>h e.symm)
theorem iQ {b:Nat} {ts:Ts} (h:Up ts):bt [] ((aw b ts).flatMap (·.2))=ts:=by
 obtain ⟨h1,h2⟩:=qv ((aw b ts).flatMap (·.2)) [] List.Pairwise.nil (fun _ _ t ht=>by cases ht) (qK h)
 exact pn h1 h (h2.trans (kJ 8 [] ts rfl))
end
noncomputable section
open PySem
noncomputable def hU:Ss:=
 (.cons (.ite (.or (.cons (.not (.isi (.var "name") "int")) (.cons (.isi (.var "name") "bool") (.cons (.not (.cmp2 .LtE .LtE (.int 0) (.var "name") (.int 255))) .nil)))) (.cons (.raise "BadName")
 .nil) .nil)
 .nil)
noncomputable def rx:Ss:=
 (.cons (.ex (.call "need_name" (.cons (.var "name") .nil)))
 (.cons (.ret (.bin .Mod (.bin .Add (.bin .Mult (.int 171) (.var "name")) (.int 37)) (.int 256)))
 .nil))
noncomputable def rt:Ss:=
 (.cons (.asg "number" (.call "mixed" (.cons (.var "name") .nil)))
 (.cons (.asg "text" (.str []))
 (.cons (.for_ "place" (.blt .range (.cons (.glo "SIGNS") .nil)) (.cons (.asg "text" (.bin .Add (.blt .str (.cons (.bin .Mod (.var "number") (.int 2)) .nil)) (.var "text")))
 (.cons (.asg "number" (.bin .FloorDiv (.var "number") (.int 2)))
 .nil)))
 (.cons (.ret (.var "text"))
 .nil))))
noncomputable def jb:Ss:=
 (.cons (.for_ "thing" (.var "things") (.cons (.ite (.cmp .Eq (.idx (.var "thing") (.int 0)) (.var "name")) (.cons (.ret (.idx (.var "thing") (.int 1)))
 .nil) .nil)
 .nil))
 (.cons (.ret .none)
 .nil))
noncomputable def nH:Ss:=
 (.cons (.asg "bits" (.idx (.var "room") (.int 0)))
 (.cons (.asg "at" (.blt .len (.cons (.var "bits") .nil)))
 (.cons (.asg "first" (.compIf (.var "thing") "thing" (.idx (.var "room") (.int 1)) (.cmp .Eq (.idx (.call "signs" (.cons (.idx (.var "thing") (.int 0)) .nil)) (.var "at")) (.str [48]))))
 (.cons (.asg "last" (.compIf (.var "thing") "thing" (.idx (.var "room") (.int 1)) (.cmp .Eq (.idx (.call "signs" (.cons (.idx (.var "thing") (.int 0)) .nil)) (.var "at")) (.str [49]))))
 (.cons (.ret (.tup (.cons (.tup (.cons (.bin .Add (.var "bits") (.str [48])) (.cons (.var "first") .nil))) (.cons (.tup (.cons (.bin .Add (.var "bits") (.str [49])) (.cons (.var "last") .nil))) .nil))))
 .nil)))))
noncomputable def hM:Ss:=
 (.cons (.asg "waiting" (.list (.cons (.tup (.cons (.str []) (.cons (.blt .list (.cons (.var "things") .nil)) .nil))) .nil)))
 (.cons (.asg "found" .dict)
 (.cons (.whl (.cmp .Gt (.blt .len (.cons (.var "waiting") .nil)) (.int 0)) (.cons (.asg "room" (.mth .pop (.var "waiting") .nil))
 (.cons (.ite (.cmp .LtE (.blt .len (.cons (.idx (.var "room") (.int 1)) .nil)) (.var "bound")) (.cons (.asgSub (.var "found") (.idx (.var "room") (.int 0)) (.idx (.var "room") (.int 1)))
 .nil) (.cons (.asg "both" (.call "parted" (.cons (.var "room") .nil)))
 (.cons (.ex (.mth .append (.var "waiting") (.cons (.idx (.var "both") (.int 0)) .nil)))
 (.cons (.ex (.mth .append (.var "waiting") (.cons (.idx (.var "both") (.int 1)) .nil)))
 .nil))))
 .nil)))
 (.cons (.ret (.compX (.tup (.cons (.var "bits") (.cons (.idx (.var "found") (.var "bits")) .nil))) "bits" (.blt .sorted (.cons (.blt .list (.cons (.var "found") .nil)) .nil))))
 .nil))))
noncomputable def fO:Ss:=
 (.cons (.ite (.or (.cons (.not (.isi (.var "bound") "int")) (.cons (.isi (.var "bound") "bool") (.cons (.not (.cmp2 .LtE .LtE (.int 1) (.var "bound") (.int 64))) .nil)))) (.cons (.raise "BadBound")
 .nil) .nil)
 (.cons (.asgAttr (.var "self") "bound" (.var "bound"))
 (.cons (.asgAttr (.var "self") "held" (.list .nil))
 .nil)))
noncomputable def ig:Ss:=
 (.cons (.ex (.call "need_name" (.cons (.var "name") .nil)))
 (.cons (.asg "before" (.call "value_in" (.cons (.attr (.var "self") "held") (.cons (.var "name") .nil))))
 (.cons (.asgAttr (.var "self") "held" (.call "with_thing" (.cons (.attr (.var "self") "held") (.cons (.var "name") (.cons (.var "value") .nil)))))
 (.cons (.ret (.var "before"))
 .nil))))
noncomputable def er:Ss:=
 (.cons (.ret (.blt .list (.cons (.attr (.var "self") "held") .nil)))
 .nil)
noncomputable def eZ:Ss:=
 (.cons (.ret (.call "rooms_for" (.cons (.attr (.var "self") "held") (.cons (.attr (.var "self") "bound") .nil))))
 .nil)
section
variable {C:Cx} {k:Nat} {H:List HO}
theorem bH {a b:Int} (h:a≤b):Cmp H .LtE (.int a) (.int b) true:=by
 have:=Cmp.le (H:=H) a b
 rwa [decide_eq_true h] at this
theorem fy {a b:Int} (h:b < a):Cmp H .LtE (.int a) (.int b) false:=by
 have:=Cmp.le (H:=H) a b
 rwa [decide_eq_false (Int.not_le.mpr h)] at this
theorem aX {a b:Int}:Cmp H .Eq (.int a) (.int b) (eqB (.int a) (.int b)):=.eq (.self _) (.self _) rfl rfl
theorem qL {c:String} (hz:az H):c=c∧az H∧H.take H.length=H:=⟨rfl,hz,List.take_length⟩
theorem ze (F:bO C "need_name" ["name"] hU) {n:Int} (h0:0≤n) (h1:n≤255):Calls C (k+1) "need_name" [.int n] H (.ok .none) H:=
 aq F rfl (aR (cT (dx (ir (iT (aa rfl) (.int _) rfl)) (dx (iT (aa rfl) (.int _) rfl) (dx (ir (cB ac (aa rfl) (bH h0) ac (bH h1))) gM)))) (bC ⟨rfl,trivial,List.take_length⟩))
noncomputable def lh (n:Int):Int:=(171*n+37) % 256
theorem wu (F:bO C "mixed" ["name"] rx) {n:Int} (Gn:Calls C k "need_name" [.int n] H (.ok .none) H):Calls C (k+1) "mixed" [.int n] H (.ok (.int (lh n))) H:=
 aq F rfl (rI (ai (aH (aa rfl)) Gn) (aP (af (af (af ac (aa rfl) (.mul (.inl (by decide)))) ac (.add _ _)) ac (.mod (by decide))) (aJ rfl trivial)))
noncomputable def sgR (m:Int):Nat→Int×List Nat
 | 0=>(m,[])
 | i+1=>((sgR m i).1 / 2,bit (decide ((sgR m i).1 % 2=1))::(sgR m i).2)
theorem pO (m:Int): ∀ i,(sgR m i).2.length=i
 | 0=>rfl
 | i+1=>by rw [sgR,List.length_cons,pO m i]
theorem De (x:Int):x % 2=b01 (decide (x % 2=1)):=by
 rcases Int.emod_two_eq x with h | h<;>rw [h]<;>rfl
theorem xx: ∀ m:Nat,m < 256→(sgR m 8).2=(oj m 8).2:=by decide +kernel
theorem uE (n:Int):(sgR (lh n) 8).2=sgn n:=by
 have h0:0≤lh n:=Int.emod_nonneg _ (by decide)
 have h1:lh n < 256:=Int.emod_lt_of_pos _ (by decide)
 have:=xx (lh n).toNat (by lia)
 rw [Int.toNat_of_nonneg h0] at this
 exact this
theorem Bv (F:bO C "signs" ["name"] rt) (hg:C.glo "SIGNS" =some (.int 8)) {n:Int} (Gm:Calls C k "mixed" [.int n] H (.ok (.int (lh n))) H):Calls C (k+1) "signs" [.int n] H (.ok (.str (sgn n))) H:=by
 refine aq F rfl (aA (ai (aH (aa rfl)) Gm) (aA ag ?_))
 refine ip (fun i st=>st.H=H∧st.s "number" =some (.int (sgR (lh n) i).1)∧st.s "text" =some (.str (sgR (lh n) i).2)) (aB (aH (yZ hg)) (.range1 _)) (gQ (n:=8) (by decide)) ⟨rfl,rfl,rfl⟩ ?_ fun st e=>aP (cC (aa e.2.2) (congrArg V.str (uE n))) (aJ e.1 trivial)
 rintro i w ⟨s,H'⟩ hw ⟨e1,e2,e3⟩ Q' hQ
 have e1:H'=H:=e1
 subst e1
 obtain ⟨hi,rfl⟩:=qF hw
 have hl:=pO (lh n) i
 have h2:=De (sgR (lh n) i).1
 have hd:ao ((sgR (lh n) i).1 % 2)=[bit (decide ((sgR (lh n) i).1 % 2=1))]:=(congrArg ao h2).trans (iV _)
 have hs:((sgR (lh n) i).1 % 2).natAbs < 10 ^ 100:=h2▸jf _
 have e4:some (V.str (ao ((sgR (lh n) i).1 % 2)++(sgR (lh n) i).2))=some (V.str (sgR (lh n) (i+1)).2):=by rw [hd]; rfl
 refine aA (af (aB (aH (af (aa (by exact e2)) ac (.mod (by decide)))) (.str hs)) (aa (by exact e3)) (.cat ?_)) (aA (af (aa (by exact e2)) ac (.div (by decide) (by decide))) (bC (hQ _ (by exact ⟨rfl,rfl,e4⟩)).1))
 rw [hd,hl,List.length_singleton]; exact lin [i] [(1,.a (.v 0) (.n 1),.n 8)] 1 (.a (.n 1) (.v 0)) (.n 16000000) rfl hi
inductive nP (H:List HO):V→Prop
 | kind {v:V} {t:String}:rP H v t→rH t "int" =false→nP H v
 | bool (b:Bool):nP H (.bool b)
 | low {n:Int}:n < 0→nP H (.int n)
 | high {n:Int}:255 < n→nP H (.int n)
noncomputable def nW (ts:Ts) (n:Int):V:=((ts.find? fun t=>decide (t.1=n)).map fun t=>V.int t.2).getD .none
theorem mY (ts:Ts) (n:Int) (m:Nat):low m (nW ts n):=by
 unfold nW
 cases ts.find? fun t=>decide (t.1=n)<;>trivial
theorem vY {ts:Ts} {i:Nat} {v:V} (h:(ts.map pr)[i]?= some v): ∃ hi:i < ts.length,v=pr ts[i]:=by
 rw [List.getElem?_map] at h
 obtain ⟨t,h1,rfl⟩:=Option.map_eq_some_iff.mp h
 obtain ⟨h2,rfl⟩:=List.getElem?_eq_some_iff.mp h1
 exact ⟨h2,rfl⟩
theorem ug {ts:Ts} {n:Int} {i:Nat} (hi:i < ts.length) (h:ts[i].1=n) (hb: ∀ t∈ts.take i,t.1≠n):nW ts n=.int ts[i].2:=by
 have:ts.find? (fun t=>decide (t.1=n))=some ts[i]:=List.find?_eq_some_iff_getElem.mpr ⟨decide_eq_true h,i,hi,rfl,fun j hj=>by
  rw [decide_eq_false (hb _ (List.mem_take_iff_getElem.mpr ⟨j,by exact li [j,_,i] [([1,0],[3]),([3],[2])] [1,0] [2] rfl hj (l_m (li [i,_] [([1,0],[2])] [1] [2] rfl hi)),rfl⟩))]; rfl⟩
 rw [nW,this]; rfl
theorem pk {ts:Ts} {n:Int} (hb: ∀ t∈ts,t.1≠n):nW ts n=.none:=by
 rw [nW,List.find?_eq_none.mpr fun t ht=>by rw [decide_eq_false (hb t ht)]; exact Bool.false_ne_true]; rfl
theorem wo (F:bO C "value_in" ["things", "name"] jb) (ts:Ts) (n:Int):Calls C (k+1) "value_in" [.lst (ts.map pr),.int n] H (.ok (nW ts n)) H:=by
 refine aq F rfl (mH (fun i st=>st.H=H∧st.s "name" =some (.int n)∧∀ t∈ts.take i,t.1≠n) (fun u st=>u=nW ts n∧st.H=H) (aa rfl) (.lst _) ⟨rfl,rfl,fun t h=>by rw [List.take_zero] at h; cases h⟩ ?_ (fun u st e=>?_) fun st e=>?_)
 ·rintro i w ⟨s,H'⟩ hw ⟨e1,e2,e3⟩ Q' hQ hR
  have e1:H'=H:=e1
  subst e1
  obtain ⟨hi,rfl⟩:=vY hw
  by_cases q:ts[i].1=n
  ·exact bl (ae (am (aa rfl) ac cz) (aa (by exact e2)) aX (decide_eq_true q)) (aP (am (aa rfl) ac jD) (aF (hR _ _ ⟨(ug hi q e3).symm,rfl⟩)))
  ·have key: ∀ t∈ts.take (i+1),t.1≠n:=fun t ht=>by
    rw [List.take_succ_eq_append_getElem hi] at ht
    rcases List.mem_append.mp ht with ht | ht
    ·exact e3 t ht
    ·rw [List.mem_singleton.mp ht]; exact q
   exact aR (ae (am (aa rfl) ac cz) (aa (by exact e2)) aX (decide_eq_false q)) (bC (hQ _ (by exact ⟨rfl,e2,key⟩)).1)
 ·obtain ⟨rfl,e⟩:=e
  exact aJ e (mY _ _ _)
 ·refine aP (cC aO (pk fun t ht=>e.2.2 t ?_).symm) (aJ e.1 (mY _ _ _))
  rw [List.length_map,List.take_length]; exact ht
noncomputable def woT (ts:Ts) (n:Int):Ts:=ts.filter fun t=>!decide (t.1=n)
noncomputable def stA (b:Int) (ts:Ts):HO:=.attrs [("bound",.int b),("held",.lst (ts.map pr))]
structure ll (H:List HO) (i j:Nat) (b:Int) (ts:Ts):Prop where
 obj:H[i]?= some (.obj j)
 att:H[j]?= some (stA b ts)
theorem ll.at {i j:Nat} {b:Int} {ts:Ts} (h:ll H i j b ts):fc H (.loc i) j [("bound",.int b),("held",.lst (ts.map pr))]:=.mk h.obj h.att
theorem ve {i j:Nat} {fs fs':List (String×V)} (h1:H[i]?= some (.obj j)) (h2:H[j]?= some (.attrs fs)):(H.set j (.attrs fs'))[i]?= some (.obj j)∧(H.set j (.attrs fs'))[j]?= some (.attrs fs'):=by
 have ne:j≠i:=fun e=>by subst e; rw [h1] at h2; cases h2
 exact ⟨by rw [List.getElem?_set_ne ne]; exact h1,List.getElem?_set_self (List.getElem?_eq_some_iff.mp h2).1⟩
theorem tE (F:bO C "Store.__init__" ["self", "bound"] fO) {i j:Nat} (h1:H[i]?= some (.obj j)) (h2:H[j]?= some (.attrs [])) {b:Int} (hb:1≤b) (hb':b≤64):Calls C (k+1) "Store.__init__" [.loc i,.int b] H (.ok .none) (H.set j (stA b [])):=by
 refine jR F rfl (aR (cT (dx (ir (iT (aa rfl) (.int _) rfl)) (dx (iT (aa rfl) (.int _) rfl) (dx (ir (cB ac (aa rfl) (bH hb) ac (bH hb'))) gM)))) ?_)
 have q:=ve (fs':=[("bound",.int b)]) h1 h2
 refine pR (aa rfl) (aa rfl) (.mk h1 h2) (show 0 < 900 by decide) (pR (bg eA .lst) (aa rfl) (.mk q.1 q.2) (show 1 < 900 by decide) (bC ⟨rfl,?_⟩))
 exact List.set_set ..
variable {i j:Nat} {b:Int} {ts:Ts}
theorem Bw (F:bO C "Store.put" ["self", "name", "value"] ig) (S:ll H i j b ts) {n v:Int} (Gn:Calls C k "need_name" [.int n] H (.ok .none) H) (Gv:Calls C k "value_in" [.lst (ts.map pr),.int n] H (.ok (nW ts n)) H)
  (Gw:Calls C k "with_thing" [.lst (ts.map pr),.int n,.int v] H (.ok (.lst ((bW ts n v).map pr))) H):Calls C (k+1) "Store.put" [.loc i,.int n,.int v] H (.ok (nW ts n)) (H.set j (stA b (bW ts n v))):=
 jR F rfl (rI (ai (aH (aa rfl)) Gn) (aA (ai (cL (dL (aa rfl) S.at rfl) (aa rfl)) Gv) (pR (ai (we (dL (aa rfl) S.at rfl) (aa rfl) (aa rfl)) Gw) (aa rfl) S.at (show 2 < 900 by decide) (aP (aa rfl) ⟨rfl,rfl⟩))))
theorem sV (F:bO C "Store.things" ["self"] er) (S:ll H i j b ts):Calls C (k+1) "Store.things" [.loc i] H (.ok (.lst (ts.map pr))) H:=
 aq F rfl (aP (fw (aH (dL (aa rfl) S.at rfl)) (.list (.lst _)) .lst) (aJ rfl (dl _ _)))
theorem wq (F:bO C "Store.rooms" ["self"] eZ) (S:ll H i j b ts) {u:V} (hl:low H.length u) (Gr:Calls C k "rooms_for" [.lst (ts.map pr),.int b] H (.ok u) H):Calls C (k+1) "Store.rooms" [.loc i] H (.ok u) H:=
 aq F rfl (aP (ai (cL (dL (aa rfl) S.at rfl) (dL (aa rfl) S.at rfl)) Gr) (aJ rfl hl))
end
end
noncomputable section
open PySem
noncomputable def bd (x:Rm):V:=.tup [.str x.1,.lst (x.2.map pr)]
noncomputable def lX (x:Rm):List Nat×V:=(x.1,.lst (x.2.map pr))
theorem ft (n:Nat): ∀ xs:List Rm,lows n (xs.map bd)
 | []=>trivial
 | x::r=>⟨⟨trivial,dl n x.2,trivial⟩,ft n r⟩
section
variable {C:Cx} {k:Nat} {H:List HO}
theorem gH {x:Rm}:Idx H (bd x) (.int 0) (.str x.1):=.tup (by decide) rfl
theorem bP {x:Rm}:Idx H (bd x) (.int 1) (.lst (x.2.map pr)):=.tup (by decide) rfl
theorem rh (F:bO C "parted" ["room"] nH) (x:Rm) (hb:x.1.length < 8) (ht: ∀ t∈x.2,0≤t.1∧t.1≤255) (Gs: ∀ n:Int,0≤n→n≤255→Calls C k "signs" [.int n] H (.ok (.str (sgn n))) H):
  Calls C (k+1) "parted" [bd x] H (.ok (.tup [bd (x.1++[48],half x.1.length 48 x.2),bd (x.1++[49],half x.1.length 49 x.2)])) H:=by
 refine aq F rfl (aA (am (aa rfl) ac gH) (aA (aB (aH (aa rfl)) (.len (.str _))) ?_))
 refine aA (cZ (g:=pr) (q:=pr) (p:=fun t=>decide (sAt t.1 x.1.length=48)) (rs:=x.2) (am (aa rfl) ac bP) (.lst _)
  (fun t h=>ae (am (ai (aH (am (aa rfl) ac cz)) (Gs _ (ht t h).1 (ht t h).2)) (aa rfl) (.str (Int.natCast_nonneg _) (gF _ hb))) ag (.eq (.self _) (.self _) rfl rfl) (jO _ _)) (fun _ _ _=>aa rfl) .lst) ?_
 refine aA (cZ (g:=pr) (q:=pr) (p:=fun t=>decide (sAt t.1 x.1.length=49)) (rs:=x.2) (am (aa rfl) ac bP) (.lst _)
  (fun t h=>ae (am (ai (aH (am (aa rfl) ac cz)) (Gs _ (ht t h).1 (ht t h).2)) (aa rfl) (.str (Int.natCast_nonneg _) (gF _ hb))) ag (.eq (.self _) (.self _) rfl rfl) (jO _ _)) (fun _ _ _=>aa rfl) .lst) ?_
 refine aP (cY (cL (cY (cL (af (aa rfl) ag (.cat ?_)) (aa rfl))) (cY (cL (af (aa rfl) ag (.cat ?_)) (aa rfl))))) (aJ rfl ⟨⟨trivial,dl _ _,trivial⟩,⟨trivial,dl _ _,trivial⟩,trivial⟩)
 ·rw [List.length_singleton]; exact lin [_] [(1,.a (.v 0) (.n 1),.n 8)] 1 (.a (.v 0) (.n 1)) (.n 16000000) rfl hb
 ·rw [List.length_singleton]; exact lin [_] [(1,.a (.v 0) (.n 1),.n 8)] 1 (.a (.v 0) (.n 1)) (.n 16000000) rfl hb
theorem cx (b:Nat) (ts:Ts):(aw b ts).length≤256:=by
 have h:=oy (b:=b) 8 [] ts rfl
 have key: ∀ l:List Rm,l.length≤(l.map fun x=>2 ^ (8 - x.1.length)).sum:=by
  intro l
  induction l with
  | nil=>exact Nat.le_refl _
  | cons x l ih=>
   rw [List.map_cons,List.sum_cons,List.length_cons]
   have:0 < 2 ^ (8 - x.1.length):=Nat.two_pow_pos _
   exact lin [_,_,_] [(1,.v 0,.v 2),(1,.a (.n 0) (.n 1),.v 1)] 1 (.a (.v 0) (.n 1)) (.a (.v 1) (.v 2)) rfl ih this
 have:=key (aw b ts)
 rw [show (aw b ts)=eo b 8 [] ts from rfl,h] at this
 exact this
theorem ow {l:List Rm} (h:l.Pairwise fun x y=>x.1≠y.1) {x:Rm} (hx:x∈l):(l.map lX).lookup x.1=some (.lst (x.2.map pr)):=by
 induction l with
 | nil=>cases hx
 | cons y l ih=>
  rw [List.map_cons,cI]
  by_cases q:x.1=y.1
  ·rw [if_pos (show (x.1 == (lX y).1)=true from beq_iff_eq.mpr q)]
   rcases List.mem_cons.mp hx with rfl | hx
   ·rfl
   ·exact absurd q.symm ((List.pairwise_cons.mp h).1 x hx)
  ·rw [if_neg (show ¬ (x.1 == (lX y).1)=true from fun z=>q (beq_iff_eq.mp z))]
   rcases List.mem_cons.mp hx with rfl | hx
   ·exact absurd rfl q
   ·exact ih (List.pairwise_cons.mp h).2 hx
theorem uU {l:List Rm} {x:Rm} (h: ∀ y∈l,y.1≠x.1):jX x.1 (.lst (x.2.map pr)) (l.map lX)=(l++[x]).map lX:=by
 rw [jX,if_neg,List.map_append]; · rfl
 intro q
 obtain ⟨p,h1,h2⟩:=List.mem_map.mp q
 obtain ⟨y,h3,rfl⟩:=List.mem_map.mp h1
 exact h y h3 h2
theorem vR {a b:List Nat} (h:a < b):leV (.str a) (.str b)=true:=decide_eq_true (List.le_of_lt h)
structure BB (H:List HO) (b:Nat) (ts:Ts) (m:Nat) (st:St) (w fd:List Rm):Prop where
 tab:st.H=H++[.list (w.map bd)]++[.dictS (fd.map lX)]
 wait:st.s "waiting" =some (.loc H.length)
 found:st.s "found" =some (.loc (H.length+1))
 bnd:st.s "bound" =some (.int b)
 ok: ∀ x∈w,WOk x
 all:cf b w++fd.reverse=aw b ts
 left:cv b w=m
theorem uh {H:List HO} {x y:HO}:(H++[x]++[y])[H.length]?= some x:=by rw [List.append_assoc,List.getElem?_append_right (Nat.le_refl _),Nat.sub_self]; rfl
theorem wH {H:List HO} {x y:HO}:(H++[x]++[y])[H.length+1]?= some y:=by rw [List.getElem?_append_right (by rw [List.length_append]; exact Nat.le_refl _),List.length_append,List.length_singleton,Nat.sub_self]; rfl
theorem oS {H:List HO} {x y z:HO}:(H++[x]++[y]).set H.length z=H++[z]++[y]:=by rw [List.append_assoc,List.set_append_right _ _ (Nat.le_refl _),Nat.sub_self,List.append_assoc]; rfl
theorem CQ {H:List HO} {x y z:HO}:(H++[x]++[y]).set (H.length+1) z=H++[x]++[z]:=by
 rw [List.set_append_right _ _ (by rw [List.length_append]; exact Nat.le_refl _),List.length_append,List.length_singleton,Nat.sub_self]; rfl
theorem jG {H:List HO} {x y:HO} (h:az H) (hx: ∀ c,x≠.inst c) (hy: ∀ c,y≠.inst c):az (H++[x]++[y]):=fun c q=>by
 rcases List.mem_append.mp q with q | q
 ·rcases List.mem_append.mp q with q | q
  ·exact h c q
  ·exact hx c (List.mem_singleton.mp q).symm
 ·exact hy c (List.mem_singleton.mp q).symm
theorem me (F:bO C "rooms_for" ["things", "bound"] hM) (hz:az H) {b:Nat} (hb:1≤b) {ts:Ts} (ho:Ok ts)
  (Gp: ∀ (H:List HO) (x:Rm),x.1.length < 8→(∀ t∈x.2,0≤t.1∧t.1≤255)→Calls C k "parted" [bd x] H (.ok (.tup [bd (x.1++[48],half x.1.length 48 x.2),bd (x.1++[49],half x.1.length 49 x.2)])) H):
  Calls C (k+1) "rooms_for" [.lst (ts.map pr),.int b] H (.ok (.lst ((aw b ts).map bd))) H:=by
 refine aq F rfl (aA (bg (aH (cY (cL ag (fw (aH (aa rfl)) (.list (.lst _)) .lst)))) .loc) (aA sO ?_))
 have left:=qD (b:=b) 8 [] ts
 refine xP (fun m st=>∃ w fd,BB H b ts m st w fd) (cv b [([],ts)]) ⟨[([],ts)],[],⟨rfl,rfl,?_,rfl,fun x hx=>?_,?_,rfl⟩⟩ ?_ ?_
 ·show some (V.loc (H++[_]).length)=_
  rw [List.length_append]; rfl
 ·rw [List.mem_singleton.mp hx]; exact ⟨Nat.zero_le _,nt _,ho⟩
 ·rw [cf,List.flatMap_singleton,List.reverse_nil,List.append_nil]; rfl
 ·rintro m ⟨s,H'⟩ ⟨w,fd,⟨e1,e2,e3,e4,e5,e6,e7⟩⟩
  have e1:H'=_:=e1
  subst e1
  rcases List.eq_nil_or_concat w with rfl | ⟨w,x,rfl⟩
  ·cases e7
  rw [List.concat_eq_append] at*
  have px:WOk x:=e5 x (List.mem_append.mpr (.inr (List.mem_singleton.mpr rfl)))
  have pw: ∀ y∈w,WOk y:=fun y hy=>e5 y (List.mem_append.mpr (.inl hy))
  have g:(H++[HO.list ((w++[x]).map bd)]++[.dictS (fd.map lX)])[H.length]?= some (.list (w.map bd++[bd x])):=by rw [uh,List.map_append]; rfl
  refine ⟨_,ae (aB (aH (aa (by exact e2))) (.len (.seq (.loc g)))) ac (.gt _ _) (decide_eq_true (Int.ofNat_lt.mpr (by rw [List.length_append]; exact Nat.succ_pos _))),fun Q' hQ=>?_⟩
  refine aA (yY (aa (by exact e2)) g) ?_
  by_cases hl:x.2.length≤b
  ·obtain ⟨t1,t2⟩:=iB (w:=w) hl
   have fresh: ∀ y∈fd,y.1≠x.1:=fun y hy=>by
    have p:=left
    rw [show eo b 8 [] ts=aw b ts from rfl,← e6,t2] at p
    exact fun z=>((List.pairwise_append.mp p).2.2 x (List.mem_append.mpr (.inr (List.mem_singleton.mpr rfl))) y (List.mem_reverse.mpr hy)).ne z.symm
   have few:fd.length < 1000000:=by
    have:=congrArg List.length e6
    rw [List.length_append,List.length_reverse] at this
    have:=cx b ts
    exact lin [_,_,_] [(1,.a (.v 1) (.v 0),.v 2),(1,.v 2,.n 256)] 1 (.a (.v 0) (.n 1)) (.n 1000000) rfl (l_e (by assumption)) this
   refine bl (ae (aB (aH (am (aa rfl) ac bP)) (.len (.seq (.lst _)))) (aa (by exact e4)) (.le _ _) (decide_eq_true (by rw [List.length_map]; exact Int.ofNat_le.mpr hl))) ?_
   refine xS (kvs:=fd.map lX) (am (aa rfl) ac bP) (aa (by exact e3)) (am (aa rfl) ac gH) (by rw [oS]; exact wH) (by rw [List.length_map]; exact few) (bC (aL (bC ?_)))
   refine (hQ _ ⟨w,fd++[x],⟨?_,by exact e2,by exact e3,by exact e4,pw,?_,?_⟩⟩).1
   ·show ((H++[HO.list ((w++[x]).map bd)]++[HO.dictS (fd.map lX)]).set H.length (.list (w.map bd))).set (H.length+1) (.dictS (jX x.1 (.lst (x.2.map pr)) (fd.map lX)))=_
    rw [oS,CQ,uU fresh]
   ·rw [List.reverse_append,← e6,t2,List.append_assoc]; rfl
   ·rw [t1] at e7; exact Nat.succ.inj e7
  ·obtain ⟨h1,h2,h3,_⟩:=px.split hb hl
   obtain ⟨t1,t2⟩:=iC (w:=w) hb px hl
   refine uR (ae (aB (aH (am (aa rfl) ac bP)) (.len (.seq (.lst _)))) (aa (by exact e4)) (.le _ _) (decide_eq_false (by rw [List.length_map]; exact fun q=>hl (Int.ofNat_le.mp q)))) ?_
   refine aA (ai (aH (aa rfl)) (Gp _ x h1 px.2.2.low)) ?_
   have small:(w.map bd).length < 1000:=by
    have a1: ∀ l:List Rm,l.length≤(cf b l).length:=fun l=>by
     induction l with
     | nil=>exact Nat.le_refl _
     | cons y l ih=>
      rw [cf,List.flatMap_cons,List.length_append,List.length_cons]
      have:1≤(eo b (8 - y.1.length) y.1 y.2).length:=List.length_pos_iff.mpr (gR _ _ _)
      have ih:l.length≤(List.flatMap (fun x=>eo b (8 - x.1.length) x.1 x.2) l).length:=ih
      exact li [_,_,_] [([0],[2]),([1],[3])] [1,0] [2,3] rfl this ih
    have:=congrArg List.length e6
    rw [List.length_append] at this
    have:=cx b ts
    have:=a1 (w++[x])
    rw [List.length_append,List.length_singleton] at this
    rw [List.length_map]; exact lin [_,_,_,_] [(1,.a (.v 1) (.v 2),.v 3),(1,.v 3,.n 256),(1,.a (.v 0) (.n 1),.v 1)] 1 (.a (.v 0) (.n 1)) (.n 1000) rfl (l_e (by assumption)) (by assumption) this
   have g1:((H++[HO.list ((w++[x]).map bd)]++[HO.dictS (fd.map lX)]).set H.length (.list (w.map bd)))[H.length]?= some (.list (w.map bd)):=by rw [oS,uh]
   refine rI (dc (aa (by exact e2)) g1 (aH (am (aa rfl) ac (.tup (by decide) rfl))) g1 (Nat.lt_trans small (by decide))) ?_
   have g2:(((H++[HO.list ((w++[x]).map bd)]++[HO.dictS (fd.map lX)]).set H.length (.list (w.map bd))).set H.length (.list (w.map bd++[bd (x.1++[48],half x.1.length 48 x.2)])))[H.length]?= some (.list (w.map bd++[bd (x.1++[48],half x.1.length 48 x.2)])):=by rw [oS,oS,uh]
   refine rI (dc (aa (by exact e2)) g2 (aH (am (aa rfl) ac (.tup (by decide) rfl))) g2 (by rw [List.length_append,List.length_singleton]; exact Nat.lt_trans (Nat.succ_lt_succ small) (by decide))) ?_
   refine bC (aL (bC ?_))
   refine (hQ _ ⟨w++[(x.1++[48],half x.1.length 48 x.2),(x.1++[49],half x.1.length 49 x.2)],fd,⟨?_,by exact e2,by exact e3,by exact e4,fun y hy=>?_,?_,?_⟩⟩).1
   ·show (((H++[HO.list ((w++[x]).map bd)]++[HO.dictS (fd.map lX)]).set H.length (.list (w.map bd))).set H.length (.list (w.map bd++[bd (x.1++[48],half x.1.length 48 x.2)]))).set H.length (.list (w.map bd++[bd (x.1++[48],half x.1.length 48 x.2)]++[bd (x.1++[49],half x.1.length 49 x.2)]))=_
    rw [oS,oS,oS,List.map_append,List.append_assoc (w.map bd)]; rfl
   ·rcases List.mem_append.mp hy with hy | hy
    ·exact pw y hy
    ·rcases List.mem_cons.mp hy with rfl | hy
     ·exact h2
     ·rw [List.mem_singleton.mp hy]; exact h3
   ·rw [← t2]; exact e6
   ·rw [t1] at e7; exact Nat.succ.inj e7
 ·rintro ⟨s,H'⟩ ⟨w,fd,⟨e1,e2,e3,e4,e5,e6,e7⟩⟩
  have e1:H'=_:=e1
  subst e1
  have hw:w=[]:=by
   cases w with
   | nil=>rfl
   | cons x w=>
    have:1≤(eo b (8 - x.1.length) x.1 x.2).length:=List.length_pos_iff.mpr (gR _ _ _)
    rw [cv,List.map_cons,List.sum_cons] at e7
    exact (l_z (lin [_,_,_] [(1,.a (.v 0) (.v 1),.n 0),(2,.n 1,.v 2),(1,.m 2 (.v 2),.a (.v 0) (.n 1))] 0 (.n 1) (.n 0) rfl (l_e e7) this (l_g _ _))).elim
  subst hw
  have hfd:fd=(aw b ts).reverse:=by rw [← e6]; show fd=(([]:List Rm)++fd.reverse).reverse; rw [List.nil_append,List.reverse_reverse]
  refine ⟨_,ae (aB (aH (aa (by exact e2))) (.len (.seq (.loc uh)))) ac (.gt _ _) rfl,?_⟩
  have ne:(aw b ts).Pairwise fun x y=>x.1≠y.1:=left.imp fun q=>q.ne
  have lk: ∀ x∈aw b ts,(fd.map lX).lookup x.1=some (.lst (x.2.map pr)):=fun x hx=>ow (by rw [hfd,List.pairwise_reverse]; exact ne.imp fun q z=>q z.symm) (by rw [hfd]; exact List.mem_reverse.mpr hx)
  have perm:((aw b ts).map fun x=>V.str x.1).Perm ((fd.map lX).map fun p=>V.str p.1):=by
   rw [hfd,List.map_map]
   exact ((List.reverse_perm _).symm).map _
  have few:=cx b ts
  refine aP (gk (g:=fun x:Rm=>V.str x.1) (q:=bd) (rs:=aw b ts) (fw (aH (fw (aH (aa (by exact e3))) (.listS (jG hz (fun _=>HO.noConfusion) fun _=>HO.noConfusion) wH) .lst))
   (.sorted (.lst _) (.txts fun v hv=>?_) ?_ perm ?_) .lst) (.lst _) (fun x hx=>cY (cL (aa rfl) (am (aa (by exact e3)) (aa rfl) (.keyS wH (lk x hx))))) .lst) ⟨rfl,ft _ _,?_⟩
  ·obtain ⟨p,_,rfl⟩:=List.mem_map.mp hv; exact ⟨_,rfl⟩
  ·rw [← perm.length_eq,List.length_map]; exact lin [_] [(1,.v 0,.n 256)] 1 (.v 0) (.n 1000000) rfl few
  ·rw [List.pairwise_map]; exact left.imp fun q=>vR q.lt
  ·show (H++[_]++[_]).take H.length=H
   rw [List.append_assoc,List.take_left]
end
end
noncomputable section
open PySem
noncomputable def kX:Ss:=
 (.cons (.asg "rows" (.list (.cons (.bin .Add (.str [98,111,117,110,100,32]) (.blt .str (.cons (.attr (.var "store") "bound") .nil))) .nil)))
 (.cons (.for_ "room" (.mcall "Store.rooms" "rooms" (.var "store") .nil) (.cons (.asg "words" (.comp (.bin .Add (.bin .Add (.bin .Add (.str [32]) (.blt .str (.cons (.idx (.var "thing") (.int 0)) .nil))) (.str [61])) (.blt .str (.cons (.idx (.var "thing") (.int 1)) .nil))) "thing" (.idx (.var "room") (.int 1))))
 (.cons (.ex (.mth .append (.var "rows") (.cons (.bin .Add (.bin .Add (.idx (.var "room") (.int 0)) (.str [58])) (.mth .join (.str []) (.cons (.var "words") .nil))) .nil)))
 .nil)))
 (.cons (.ret (.mth .join (.str [10]) (.cons (.var "rows") .nil)))
 .nil)))
noncomputable def dr:Ss:=
 (.cons (.asg "figures" (.var "word"))
 (.cons (.ite (.cmp .Eq (.slc (.var "word") .omit (.int 1)) (.str [45])) (.cons (.asg "figures" (.slc (.var "word") (.int 1) .omit))
 .nil) .nil)
 (.cons (.ite (.not (.cmp2 .LtE .LtE (.int 1) (.blt .len (.cons (.var "figures") .nil)) (.var "most"))) (.cons (.raise "NoStore")
 .nil) .nil)
 (.cons (.for_ "sign" (.var "figures") (.cons (.ite (.cmp .NotIn (.var "sign") (.str [48,49,50,51,52,53,54,55,56,57])) (.cons (.raise "NoStore")
 .nil) .nil)
 .nil))
 (.cons (.ret (.blt .int (.cons (.var "word") .nil)))
 .nil)))))
noncomputable def ru:Ss:=
 (.cons (.asg "rows" (.mth .split (.var "text") (.cons (.str [10]) .nil)))
 (.cons (.ite (.cmp .NotEq (.slc (.idx (.var "rows") (.int 0)) .omit (.int 6)) (.str [98,111,117,110,100,32])) (.cons (.raise "NoStore")
 .nil) .nil)
 (.cons (.asg "bound" (.call "number_of" (.cons (.slc (.idx (.var "rows") (.int 0)) (.int 6) .omit) (.cons (.int 2) .nil))))
 (.cons (.ite (.not (.cmp2 .LtE .LtE (.int 1) (.var "bound") (.int 64))) (.cons (.raise "NoStore")
 .nil) .nil)
 (.cons (.asg "store" (.make (.cons (.var "bound") .nil)))
 (.cons (.for_ "row" (.slc (.var "rows") (.int 1) .omit) (.cons (.asg "words" (.mth .split (.var "row") (.cons (.str [32]) .nil)))
 (.cons (.for_ "word" (.slc (.var "words") (.int 1) .omit) (.cons (.asg "parts" (.mth .split (.var "word") (.cons (.str [61]) .nil)))
 (.cons (.ite (.cmp .NotEq (.blt .len (.cons (.var "parts") .nil)) (.int 2)) (.cons (.raise "NoStore")
 .nil) .nil)
 (.cons (.asg "name" (.call "number_of" (.cons (.idx (.var "parts") (.int 0)) (.cons (.int 3) .nil))))
 (.cons (.ite (.not (.cmp2 .LtE .LtE (.int 0) (.var "name") (.int 255))) (.cons (.raise "NoStore")
 .nil) .nil)
 (.cons (.ex (.mcall "Store.put" "put" (.var "store") (.cons (.var "name") (.cons (.call "number_of" (.cons (.idx (.var "parts") (.int 1)) (.cons (.int 60) .nil))) .nil))))
 .nil))))))
 .nil)))
 (.cons (.ite (.cmp .NotEq (.call "written" (.cons (.var "store") .nil)) (.var "text")) (.cons (.raise "NoStore")
 .nil) .nil)
 (.cons (.ret (.var "store"))
 .nil))))))))
noncomputable def sW (ts:Ts):Prop:=∀ t∈ts,t.2.natAbs < 10 ^ 60
theorem oB (i:Int):ao i=ao (i.natAbs:Int)∨ao i=45::ao (i.natAbs:Int):=by
 cases i with
 | ofNat m=>exact .inl rfl
 | negSucc m=>exact .inr (fx m)
theorem dM {i:Int} {n:Nat} (hn:0 < n) (h:i.natAbs < 10 ^ n):(ao i).length≤n+1:=by
 have:=bS hn h
 rcases oB i with e | e
 ·rw [e]; exact li [_,n] [([1],[2])] [1] [2,0] rfl this
 ·rw [e,List.length_cons]; exact li [_,n] [([1],[2])] [1,0] [2,0] rfl this
theorem jj {t:Int×Int} (h1:0≤t.1∧t.1≤255) (h2:t.2.natAbs < 10 ^ 60):(ao t.1).length≤4∧(ao t.2).length≤61:=
 ⟨dM (n:=3) (by decide) (by have:=h1.1; have:=h1.2; lia),dM (n:=60) (by decide) h2⟩
theorem qx {α:Type} (f:α→List Nat) (l:List α):aN [] (l.map f)=l.flatMap f:=by
 cases l with
 | nil=>rfl
 | cons x l=>rw [List.map_cons,aN,List.flatMap_cons,List.flatMap_map]; rfl
theorem gP {sep:List Nat} {B:Nat} (ss:List (List Nat)) (h: ∀ s∈ss,s.length≤B):(aN sep ss).length≤ss.length*(B+sep.length):=by
 cases ss with
 | nil=>exact Nat.zero_le _
 | cons p ss=>
  have key: ∀ l:List (List Nat),(∀ s∈l,s.length≤B)→(l.flatMap fun q=>sep++q).length≤l.length*(B+sep.length):=by
   intro l
   induction l with
   | nil=>exact fun _=>Nat.zero_le _
   | cons q l ih=>
    intro h
    rw [List.flatMap_cons,List.length_append,List.length_append,List.length_cons,Nat.succ_mul]
    have:=h q List.mem_cons_self
    have:=ih fun s hs=>h s (List.mem_cons_of_mem _ hs)
    exact lin [_,_,_,_,B] [(1,.v 1,.v 4),(1,.v 2,.v 3)] 1 (.a (.a (.v 0) (.v 1)) (.v 2)) (.a (.v 3) (.a (.v 4) (.v 0))) rfl (by assumption) this
  rw [aN,List.length_append,List.length_cons,Nat.succ_mul]
  have:=h p List.mem_cons_self
  have:=key ss fun s hs=>h s (List.mem_cons_of_mem _ hs)
  exact lin [_,_,_,B,_] [(1,.v 0,.v 3),(1,.v 1,.v 2)] 1 (.a (.v 0) (.v 1)) (.a (.v 2) (.a (.v 3) (.v 4))) rfl (by assumption) this
theorem oz {α:Type} {f:α→List Nat} {B:Nat} (l:List α) (h: ∀ x∈l,(f x).length≤B):(l.flatMap f).length≤l.length*B:=by
 induction l with
 | nil=>exact Nat.zero_le _
 | cons x l ih=>
  rw [List.flatMap_cons,List.length_append,List.length_cons,Nat.succ_mul]
  have:=h x List.mem_cons_self
  have:=ih fun s hs=>h s (List.mem_cons_of_mem _ hs)
  exact li [_,_,_,B] [([1],[4]),([2],[3])] [1,2] [3,4] rfl (by assumption) this
theorem ck {α:Type} (xs:List α) (n:Nat):slice xs (bM xs.length (some (n:Int))) (bQ xs.length none)=xs.drop n:=by
 show ((xs.take xs.length).drop (cut xs.length n))=_
 rw [List.take_length,cut,if_neg (Int.not_lt.mpr (Int.natCast_nonneg n)),Int.toNat_natCast]
 by_cases h:n≤xs.length
 ·rw [Nat.min_eq_left h]
 ·rw [Nat.min_eq_right (Nat.le_of_not_le h),List.drop_length,List.drop_eq_nil_of_le (Nat.le_of_not_le h)]
structure Stk (b:Nat) (ts:Ts):Prop where
 b1:1≤b
 b64:b≤64
 ok:Ok ts
 vals:sW ts
section
variable {b:Nat} {ts:Ts}
theorem Stk.room (g:Stk b ts) {x:Rm} (hx:x∈aw b ts):x.1.length≤8∧x.2.length≤64∧(∀ t∈x.2,(0≤t.1∧t.1≤255)∧t.2.natAbs < 10 ^ 60)∧∀ c∈x.1,c=48∨c=49:=by
 have h1:=kM 8 [] ts (fun c h=>by cases h) x hx
 have h2:=sJ g.b1 8 [] ts rfl (nt _) g.ok x hx
 have h3:=vX 8 [] ts rfl (nt _) x hx
 refine ⟨by have:=h1.1; exact this,Nat.le_trans h2 g.b64,fun t ht=>?_,h1.2⟩
 rw [h3] at ht
 have:=(List.mem_filter.mp ht).1
 exact ⟨g.ok.low t this,g.vals t this⟩
theorem ke {t:Int×Int} (h:(0≤t.1∧t.1≤255)∧t.2.natAbs < 10 ^ 60):(bV t).length≤66:=by
 obtain ⟨h1,h2⟩:=jj h.1 h.2
 rw [bV,List.length_append,List.length_cons]; exact lin [_,_] [(1,.v 0,.n 4),(1,.v 1,.n 61)] 1 (.a (.v 0) (.a (.v 1) (.n 1))) (.n 66) rfl h1 h2
theorem Stk.words (g:Stk b ts) {x:Rm} (hx:x∈aw b ts):(x.2.flatMap fun t=>32::bV t).length≤64*67:=by
 obtain ⟨h1,h2,h3,_⟩:=g.room hx
 refine Nat.le_trans (oz (B:=67) x.2 fun t ht=>?_) (Nat.mul_le_mul_right _ h2)
 have:=ke (h3 t ht)
 rw [List.length_cons]; exact lin [_] [(1,.v 0,.n 66)] 1 (.a (.v 0) (.n 1)) (.n 67) rfl this
theorem Stk.row (g:Stk b ts) {x:Rm} (hx:x∈aw b ts):(ij x).length≤5000:=by
 have h1:=(g.room hx).1
 have h2:=g.words hx
 rw [ij,List.length_append,List.length_cons]; exact lin [_,_] [(1,.v 0,.n 8),(1,.v 1,.m 64 (.n 67))] 1 (.a (.v 0) (.a (.v 1) (.n 1))) (.n 5000) rfl h1 h2
theorem hJ (h:b≤64):(bZ b).length≤10:=by
 have:=bS (m:=b) (k:=2) (by decide) (by lia)
 rw [bZ,List.length_append]; exact Nat.le_trans (Nat.add_le_add_left this 6) (by decide)
theorem Stk.rows (g:Stk b ts):(dw b ts).length≤257∧∀ r∈dw b ts,r.length≤5000:=by
 refine ⟨by rw [dw,List.length_cons,List.length_map]; exact Nat.succ_le_succ (cx b ts),fun r hr=>?_⟩
 rcases List.mem_cons.mp hr with rfl | hr
 ·exact Nat.le_trans (hJ g.b64) (by decide)
 ·obtain ⟨x,hx,rfl⟩:=List.mem_map.mp hr
  exact g.row hx
theorem Stk.text (g:Stk b ts):(ci b ts).length+((dw b ts).length+1)*([10].length+1)≤2000000:=by
 have h1:=gP (sep:=[10]) (dw b ts) g.rows.2
 have h2:(dw b ts).length*(5000+[10].length)≤257*5001:=Nat.mul_le_mul_right _ g.rows.1
 have h3:=g.rows.1
 show (aN [10] (dw b ts)).length+((dw b ts).length+1)*2≤2000000
 omega
end
section
variable {C:Cx} {k:Nat} {H:List HO} {i j:Nat} {b:Nat} {ts:Ts}
theorem ll.ext {b:Int} (S:ll H i j b ts) (L:List HO):ll (H++L) i j b ts:=⟨by rw [List.getElem?_append_left (List.getElem?_eq_some_iff.mp S.obj).1]; exact S.obj,by rw [List.getElem?_append_left (List.getElem?_eq_some_iff.mp S.att).1]; exact S.att⟩
theorem bF {H:List HO} {x:HO}:(H++[x])[H.length]?= some x:=by rw [List.getElem?_append_right (Nat.le_refl _),Nat.sub_self]; rfl
theorem io {H:List HO} {x z:HO}:(H++[x]).set H.length z=H++[z]:=by rw [List.set_append_right _ _ (Nat.le_refl _),Nat.sub_self]; rfl
theorem vL {H:List HO} {x:HO} (h:az H) (hx: ∀ c,x≠.inst c):az (H++[x]):=fun c q=>by
 rcases List.mem_append.mp q with q | q
 ·exact h c q
 ·exact hx c (List.mem_singleton.mp q).symm
theorem cR {α:Type} {f:α→V} {l:List α} {i:Nat} {v:V} (h:(l.map f)[i]?= some v): ∃ hi:i < l.length,v=f l[i]:=by
 rw [List.getElem?_map] at h
 obtain ⟨t,h1,rfl⟩:=Option.map_eq_some_iff.mp h
 obtain ⟨h2,rfl⟩:=List.getElem?_eq_some_iff.mp h1
 exact ⟨h2,rfl⟩
theorem rf (F:bO C "written" ["store"] kX) (hz:az H) (g:Stk b ts) (S:ll H i j b ts)
  (Gr: ∀ H:List HO,az H→ll H i j b ts→Calls C k "Store.rooms" [.loc i] H (.ok (.lst ((aw b ts).map bd))) H):Calls C (k+1) "written" [.loc i] H (.ok (.str (ci b ts))) H:=by
 refine aq F rfl (aA (bg (aH (af ag (aB (aH (dL (aa rfl) S.at rfl)) (.str ?_)) (.cat ?_))) .loc) ?_)
 ·have:=g.b64; exact Nat.lt_of_le_of_lt this (by decide)
 ·have:=hJ g.b64
  rw [bZ,List.length_append] at this
  exact Nat.le_trans this (by decide)
 refine ip (fun l st=>st.H=H++[.list ((bZ b::((aw b ts).take l).map ij).map .str)]∧st.s "rows" =some (.loc H.length))
  (kR (aa rfl) (S.ext _).at rfl eA (Gr _ (vL hz fun _=>HO.noConfusion) (S.ext _))) (.lst _) ⟨rfl,rfl⟩ ?_ ?_
 ·rintro l w ⟨s,H'⟩ hw ⟨e1,e2⟩ Q' hQ
  have e1:H'=_:=e1
  subst e1
  obtain ⟨hl,rfl⟩:=cR hw
  generalize hx:(aw b ts)[l]=x
  have mx:x∈aw b ts:=hx▸List.getElem_mem hl
  obtain ⟨h1,h2,h3,_⟩:=g.room mx
  refine aA (wh (g:=pr) (q:=fun t=>V.str (32::bV t)) (rs:=x.2) (am (aa rfl) ac bP) (.lst _) (fun t ht=>?_) .lst) ?_
  ·obtain ⟨l1,l2⟩:=jj (h3 t ht).1 (h3 t ht).2
   have a1:t.1.natAbs < 10 ^ 100:=Nat.lt_of_le_of_lt (by have:=(h3 t ht).1.1; have:=(h3 t ht).1.2; lia:t.1.natAbs≤255) (by decide)
   have a2:t.2.natAbs < 10 ^ 100:=Nat.lt_trans (h3 t ht).2 (by decide)
   refine cC (af (af (af ag (aB (aH (am (aa rfl) ac cz)) (.str a1)) (.cat ?_)) ag (.cat ?_)) (aB (aH (am (aa rfl) ac jD)) (.str a2)) (.cat ?_)) (congrArg V.str ?_)
   ·simp only [List.length_singleton]; exact lin [_] [(1,.v 0,.n 4)] 1 (.a (.n 1) (.v 0)) (.n 16000000) rfl l1
   ·simp only [List.length_append,List.length_singleton]; exact lin [_] [(1,.v 0,.n 4)] 1 (.a (.a (.n 1) (.v 0)) (.n 1)) (.n 16000000) rfl l1
   ·simp only [List.length_append,List.length_singleton]; exact lin [_,_] [(1,.v 0,.n 4),(1,.v 1,.n 61)] 1 (.a (.a (.a (.n 1) (.v 0)) (.n 1)) (.v 1)) (.n 16000000) rfl l1 l2
   ·rw [bV,List.append_assoc,List.append_assoc]; rfl
  ·have vw:fk (H++[HO.list ((bZ b::((aw b ts).take l).map ij).map .str)]) (.lst (x.2.map fun t=>V.str (32::bV t))) ((x.2.map fun t=>32::bV t).map .str):=by
    rw [List.map_map]; exact .lst _
   have hj:=qx (fun t=>32::bV t) x.2
   have hw:=g.words mx
   have hs:(aN [] (x.2.map fun t=>32::bV t)).length+((x.2.map fun t=>32::bV t).length+1)*(([]:List Nat).length+1)≤16000000:=by
    rw [hj,List.length_map]
    show _+(x.2.length+1)*1≤_
    lia
   refine rI (dc (aa (by exact e2)) bF (aH (cC (af (af (am (aa rfl) ac gH) ag (.cat ?_)) (iS ag (.join _) (aH (aa rfl)) (.join vw hs)) (.cat ?_)) (v':=.str (ij x)) (congrArg V.str ?_))) bF ?_) (bC (hQ _ (by
    refine ⟨?_,e2⟩
    show (H++[HO.list ((bZ b::((aw b ts).take l).map ij).map .str)]).set H.length _=_
    rw [io,List.take_succ_eq_append_getElem hl,hx,List.map_append,← List.cons_append,List.map_append]; rfl)).1)
   ·rw [List.length_singleton]; exact lin [_] [(1,.v 0,.n 8)] 1 (.a (.v 0) (.n 1)) (.n 16000000) rfl h1
   ·rw [hj,List.length_append,List.length_singleton]; exact lin [_,_] [(1,.v 0,.n 8),(1,.v 1,.m 64 (.n 67))] 1 (.a (.a (.v 0) (.n 1)) (.v 1)) (.n 16000000) rfl h1 hw
   ·rw [hj,ij,List.append_assoc]; rfl
   ·rw [List.length_map,List.length_cons,List.length_map,List.length_take]
    have:=cx b ts
    exact lin [_,l,_] [(1,.a (.v 1) (.n 1),.v 2),(1,.v 2,.n 256),(1,.v 0,.v 1)] 1 (.a (.a (.v 0) (.n 1)) (.n 1)) (.n 16000000) rfl hl this (Nat.min_le_left _ _)
 ·rintro ⟨s,H'⟩ ⟨e1,e2⟩
  have e1:H'=_:=e1
  subst e1
  have e3:(bZ b::((aw b ts).take ((aw b ts).map bd).length).map ij)=dw b ts:=by rw [List.length_map,List.take_length]; rfl
  have hs:=g.text
  refine aP (iS ag (.join _) (aH (aa (by exact e2))) (.join (ss:=dw b ts) (.loc (by rw [← e3]; exact bF)) (Nat.le_trans hs (by decide)))) ⟨rfl,trivial,?_⟩
  show (H++[_]).take H.length=H
  rw [List.take_left]
end
end
noncomputable section
open PySem
section
variable {C:Cx} {k:Nat} {H:List HO} {b:Nat} {ts:Ts}
theorem kH (ts us ws:Ts):bt ts (us++ws)=bt (bt ts us) ws:=by rw [bt,bt,bt,List.foldl_append]
theorem iX (b:Nat):(bZ b).take 6=[98,111,117,110,100,32]:=rfl
theorem iY (b:Nat):(bZ b).drop 6=ao (b:Int):=rfl
theorem qJ (b:Nat) (ts:Ts) {l:Nat} (h:l < (aw b ts).length):((aw b ts).take (l+1)).flatMap (·.2)=((aw b ts).take l).flatMap (·.2)++(aw b ts)[l].2:=by
 rw [List.take_succ_eq_append_getElem h,List.flatMap_append,List.flatMap_singleton]
theorem stAt2 {b:Int}:ll (H++[stA b ts]++[HO.obj H.length]) (H.length+1) H.length b ts:=⟨wH,uh⟩
theorem zb (F:bO C "read" ["text"] ru) (hz:az H) (g:Stk b ts)
  (Gn: ∀ (H:List HO) (i:Int) (most:Nat),(ao (i.natAbs:Int)).length≤most→most≤300→Calls C k "number_of" [.str (ao i),.int most] H (.ok (.int i)) H)
  (Gi:Calls C k "Store.__init__" [.loc (H.length+1),.int b] (H++[HO.attrs []]++[HO.obj H.length]) (.ok .none) ((H++[HO.attrs []]++[HO.obj H.length]).set H.length (stA b [])))
  (Gp: ∀ (us:Ts) (n v:Int),us.length≤1000000→0≤n→n≤255→Calls C k "Store.put" [.loc (H.length+1),.int n,.int v] (H++[stA b us]++[HO.obj H.length]) (.ok (nW us n)) ((H++[stA b us]++[HO.obj H.length]).set H.length (stA b (bW us n v))))
  (Gw:Calls C k "written" [.loc (H.length+1)] (H++[stA b ts]++[HO.obj H.length]) (.ok (.str (ci b ts))) (H++[stA b ts]++[HO.obj H.length])):
  Calls C (k+1) "read" [.str (ci b ts)] H (.ok (.loc (H.length+1))) (H++[stA b ts]++[HO.obj H.length]):=by
 have ht:(ci b ts).length≤16000000:=by have:=g.text; exact lin [_,_] [(1,.a (.v 0) (.v 1),.n 2000000)] 1 (.v 0) (.n 16000000) rfl this
 have r0:(dw b ts).map V.str=V.str (bZ b)::((aw b ts).map ij).map .str:=rfl
 have db:(ao ((b:Int).natAbs:Int)).length≤2:=bS (m:=b) (k:=2) (by decide) (by have:=g.b64; lia)
 have i0: ∀ H:List HO,Idx H (.lst ((dw b ts).map .str)) (.int 0) (.str (bZ b)):=fun H=>.seq (.lst _) (by decide) rfl
 refine jR F rfl (aA (cU (aa rfl) (.split _) (aH ag) (.split (ps:=dw b ts) ht (fun e=>nomatch e) rfl (gG b ts)) .lst) ?_)
 refine aR (ae (bw (am (aa rfl) ac (i0 _)) rfl ac (.str _)) ag (.ne (.self _) (.self _) rfl rfl) (by rw [show ((6:Int))=((6:Nat):Int) from rfl,dX,iX,gY]; rfl)) ?_
 refine aA (ai (cL (cC (aV (am (aa rfl) ac (i0 _)) rfl ac (.str _)) (v':=.str (ao (b:Int))) (by rw [show ((6:Int))=((6:Nat):Int) from rfl,ck,iY])) ac) (Gn _ b 2 db (by decide))) ?_
 refine aR (ir (cB ac (aa rfl) (bH (Int.ofNat_le.mpr g.b1)) ac (bH (Int.ofNat_le.mpr g.b64)))) ?_
 refine aA (qQ (aH (aa rfl)) Gi) ?_
 have all:(aw b ts).flatMap (·.2)=((aw b ts).take (aw b ts).length).flatMap (·.2):=by rw [List.take_length]
 have cnt: ∀ l,(((aw b ts).take l).flatMap (·.2)).length≤20000:=fun l=>by
  have a1: ∀ xs:List Rm,(∀ x∈xs,x.2.length≤64)→(xs.flatMap (·.2)).length≤xs.length*64:=by
   intro xs
   induction xs with
   | nil=>exact fun _=>Nat.zero_le _
   | cons x xs ih=>
    intro h
    rw [List.flatMap_cons,List.length_append,List.length_cons,Nat.succ_mul]
    have:=h x List.mem_cons_self
    have:=ih fun s hs=>h s (List.mem_cons_of_mem _ hs)
    exact lin [_,_,_] [(1,.v 0,.n 64),(1,.v 1,.v 2)] 1 (.a (.v 0) (.v 1)) (.a (.v 2) (.n 64)) rfl (by assumption) this
  have:=a1 ((aw b ts).take l) fun x hx=>(g.room (List.mem_of_mem_take hx)).2.1
  rw [List.length_take] at this
  have:=cx b ts
  have:min l (aw b ts).length*64≤256*64:=Nat.mul_le_mul_right _ (by exact lin [_,_] [(1,.v 1,.n 256),(1,.v 0,.v 1)] 1 (.v 0) (.n 256) rfl this (Nat.min_le_right _ _))
  exact lin [_,_] [(1,.v 0,.v 1),(1,.v 1,.m 256 (.n 64))] 1 (.v 0) (.n 20000) rfl (by assumption) this
 have sl: ∀ (xs:List V),slice xs (bM xs.length (some (1:Int))) (bQ xs.length none)=xs.drop 1:=fun xs=>ck xs 1
 refine ip (fun l st=>st.H=H++[stA b (bt [] (((aw b ts).take l).flatMap (·.2)))]++[HO.obj H.length]∧st.s "store" =some (.loc (H.length+1))∧st.s "text" =some (.str (ci b ts)))
  (aV (aa rfl) rfl ac (.seq (.lst _) .lst)) (by rw [sl,r0]; exact .lst _) ⟨by show List.set _ _ _=_; rw [oS]; rfl,rfl,rfl⟩ ?_ ?_
 ·rintro l w ⟨s,H'⟩ hw ⟨e1,e2,e3⟩ Q' hQ
  have e1:H'=_:=e1
  subst e1
  have hw:(((aw b ts).map ij).map V.str)[l]?= some w:=hw
  rw [List.map_map] at hw
  obtain ⟨hl,rfl⟩:=cR hw
  have fl:=qJ b ts hl
  have cl:=cnt l
  generalize hx:(aw b ts)[l]=x at*
  have mx:x∈aw b ts:=hx▸List.getElem_mem hl
  generalize ((aw b ts).take l).flatMap (·.2)=pre at*
  obtain ⟨h1,h2,h3,h4⟩:=g.room mx
  have rl:=g.row mx
  refine aA (cU (aa rfl) (.split _) (aH ag) (.split (ps:=eE x) (Nat.le_trans rl (by decide)) (fun e=>nomatch e) (eG x) (iy h4)) .lst) ?_
  refine ip (fun m st=>st.H=H++[stA b (bt [] (pre++x.2.take m))]++[HO.obj H.length]∧st.s "store" =some (.loc (H.length+1))∧st.s "text" =some (.str (ci b ts)))
   (aV (aa rfl) rfl ac (.seq (.lst _) .lst)) (items:=(x.2.map bV).map .str) (by rw [sl]; exact .lst _) ⟨by rw [List.take_zero,List.append_nil]; rfl,e2,e3⟩ ?_ ?_
  ·rintro m w ⟨s,H'⟩ hw ⟨q1,q2,q3⟩ Q' hQ
   have q1:H'=_:=q1
   subst q1
   rw [List.map_map] at hw
   obtain ⟨hm,rfl⟩:=cR hw
   generalize ht:x.2[m]=t at*
   have mt:t∈x.2:=ht▸List.getElem_mem hm
   obtain ⟨⟨n0,n1⟩,v0⟩:=h3 t mt
   have wl:=ke (h3 t mt)
   have d1:(ao (t.1.natAbs:Int)).length≤3:=bS (by decide) (by lia)
   have d2:(ao (t.2.natAbs:Int)).length≤60:=bS (by decide) v0
   refine aA (cU (aa rfl) (.split _) (aH ag) (.split (ps:=[ao t.1,ao t.2]) (Nat.le_trans wl (by decide)) (fun e=>nomatch e) (iz t) (iK t)) .lst) ?_
   refine aR (ae (aB (aH (aa rfl)) (.len (.seq (.lst _)))) ac df lR) ?_
   refine aA (ai (cL (am (aa rfl) ac (.seq (.lst _) (by decide) rfl)) ac) (Gn _ t.1 3 d1 (by decide))) ?_
   refine aR (ir (cB ac (aa rfl) (bH n0) ac (bH n1))) ?_
   have len:(bt [] (pre++x.2.take m)).length≤1000000:=by
    have:=qw (pre++x.2.take m) []
    rw [List.length_append,List.length_take,List.length_nil] at this
    exact lin [_,_,_,m,_] [(1,.v 1,.n 20000),(1,.v 2,.n 64),(1,.a (.v 3) (.n 1),.v 2),(1,.v 0,.a (.n 0) (.a (.v 1) (.v 4))),(1,.v 4,.v 3)] 1 (.v 0) (.n 1000000) rfl cl h2 hm this (Nat.min_le_left _ _)
   refine rI (jM (aa (by exact q2)) stAt2.at rfl (cL (aa rfl) (ai (cL (am (aa rfl) ac (.seq (.lst _) (by decide) rfl)) ac) (Gn _ t.2 60 d2 (by decide)))) (Gp _ t.1 t.2 len n0 n1)) (bC (hQ _ (by
    refine ⟨?_,q2,q3⟩
    show List.set _ _ _=_
    rw [oS,List.take_succ_eq_append_getElem hm,ht,← List.append_assoc,kH _ (pre++x.2.take m) [t]]; rfl)).1)
  ·rintro ⟨s,H'⟩ ⟨q1,q2,q3⟩
   have q1:H'=_:=q1
   subst q1
   refine bC (hQ _ (by
    refine ⟨?_,q2,q3⟩
    show H++_++_=_
    rw [fl,List.length_map,List.length_map,List.take_length])).1
 ·rintro ⟨s,H'⟩ ⟨e1,e2,e3⟩
  have e4:bt [] (((aw b ts).take (List.drop 1 (V.str (bZ b)::((aw b ts).map ij).map V.str)).length).flatMap (·.2))=ts:=by
   show bt [] (((aw b ts).take (((aw b ts).map ij).map V.str).length).flatMap (·.2))=ts
   rw [List.length_map,List.length_map,List.take_length]; exact iQ g.ok.up
  rw [e4] at e1
  have e1:H'=_:=e1
  subst e1
  refine aR (ae (ai (aH (aa (by exact e2))) Gw) (aa (by exact e3)) (.ne (.self _) (.self _) rfl rfl) (by rw [gY]; rfl)) (aP (aa (by exact e2)) ⟨rfl,rfl⟩)
end
end
noncomputable section
open PySem
section
variable {C:Cx} {k:Nat} {H:List HO} {ns:List Int}
abbrev Ax:=Bool×Int×Int
noncomputable def Bo (p:Bool):List Nat:=if p then [112,117,116] else [116,97,107,101]
noncomputable def dV (d:Ax):V:=.tup [.str (Bo d.1),.int d.2.1,.int d.2.2]
noncomputable def DOk (d:Ax):Prop:=(0≤d.2.1∧d.2.1≤255)∧d.2.2.natAbs < 10 ^ 60
noncomputable def bhT (ts:Ts) (d:Ax):Ts:=if d.1 then bW ts d.2.1 d.2.2 else woT ts d.2.1
theorem AN {ts:Ts} (h:Up ts) (n:Int):Up (woT ts n):=h.filter _
theorem ue {ts:Ts} {n v:Int}:(bW ts n v).Perm (woT ts n++[(n,v)]):=by
 have h:=iA (ts:=woT ts n) (n:=n) (v:=v) fun t ht=>by
  have:=(List.mem_filter.mp ht).2
  simpa using this
 have e:bW (woT ts n) n v=bW ts n v:=by
  rw [bW,bW,woT,List.filter_filter,List.filter_filter]
  congr 1
  ·congr 1
   refine List.filter_congr fun t _=>?_
   by_cases q:t.1 < n
   ·rw [decide_eq_true q,decide_eq_false (by lia)]; rfl
   ·rw [decide_eq_false q]; rfl
  ·refine List.filter_congr fun t _=>?_
   by_cases q:n < t.1
   ·rw [decide_eq_true q,decide_eq_false (by lia)]; rfl
   ·rw [decide_eq_false q]; rfl
 rwa [e] at h
theorem kf {ts:Ts} (h:Up ts):(ts.map pr).Pairwise fun a b=>leV a b=true:=by
 rw [List.pairwise_map]; exact h.imp fun q=>yN q
theorem duos (ts:Ts): ∀ v∈ts.map pr,∃ i j,v=.tup [.int i,.int j]:=fun v hv=>by
 obtain ⟨t,_,rfl⟩:=List.mem_map.mp hv
 exact ⟨t.1,t.2,rfl⟩
theorem BA {ts:Ts} {d:Ax} (h:Ok ts) (hv:sW ts) (hd:DOk d):Ok (bhT ts d)∧sW (bhT ts d):=by
 have sub: ∀ t∈woT ts d.2.1,t∈ts:=fun t ht=>(List.mem_filter.mp ht).1
 unfold bhT
 cases d.1 with
 | true=>
  have pm:=ue (ts:=ts) (n:=d.2.1) (v:=d.2.2)
  have mem: ∀ t∈bW ts d.2.1 d.2.2,t∈ts∨t=(d.2.1,d.2.2):=fun t ht=>(List.mem_append.mp (pm.subset ht)).imp (sub t) List.mem_singleton.mp
  exact ⟨⟨mz h.up _ _,fun t ht=>(mem t ht).elim (h.low t) fun e=>by rw [e]; exact hd.1⟩,fun t ht=>(mem t ht).elim (hv t) fun e=>by rw [e]; exact hd.2⟩
 | false=>exact ⟨⟨AN h.up _,fun t ht=>h.low t (sub t ht)⟩,fun t ht=>hv t (sub t ht)⟩
theorem qh {ts:Ts} (h:Ok ts):ts.length≤256:=by
 have key: ∀ (ts:Ts) (lo:Int),lo≤256→Up ts→(∀ t∈ts,lo≤t.1∧t.1≤255)→ts.length≤(256 - lo).toNat:=by
  intro ts
  induction ts with
  | nil=>exact fun _ _ _ _=>Nat.zero_le _
  | cons t ts ih=>
   intro lo hl hu hb
   have ht:=hb t List.mem_cons_self
   have:=ih (t.1+1) (by omega) (List.pairwise_cons.mp hu).2 fun u hu'=>⟨(List.pairwise_cons.mp hu).1 u hu',(hb u (List.mem_cons_of_mem _ hu')).2⟩
   rw [List.length_cons]; omega
 exact key ts 0 (by decide) h.up h.low
end
end
noncomputable section
open PySem
noncomputable def ak (c:Nat):List Nat→List (List Nat)
 | []=>[[]]
 | x::r=>if x=c then []::ak c r else (x::(ak c r).headD [])::(ak c r).tail
theorem jy (c:Nat): ∀ w,ak c w≠[]
 | []=>fun h=>nomatch h
 | x::r=>by
  rw [ak]
  by_cases h:x=c
  ·rw [if_pos h]; exact fun h=>nomatch h
  ·rw [if_neg h]; exact fun h=>nomatch h
theorem bE (c:Nat) (w:List Nat):ak c w=(ak c w).headD []::(ak c w).tail:=by
 have:=jy c w
 cases e:ak c w with
 | nil=>exact absurd e this
 | cons p ps=>rfl
theorem iE (c:Nat): ∀ w,aN [c] (ak c w)=w
 | []=>rfl
 | x::r=>by
  have ih:=iE c r
  rw [bE] at ih
  rw [ak]
  by_cases h:x=c
  ·rw [if_pos h,bE c r,aN,List.flatMap_cons]
   rw [aN] at ih
   rw [h]; exact congrArg (fun z=>c::z) ih
  ·rw [if_neg h]; exact congrArg (fun z=>x::z) ih
theorem split_free (c:Nat): ∀ w,∀ p∈ak c w,c ∉ p
 | []=>fun p hp=>by rw [List.mem_singleton.mp hp]; exact List.not_mem_nil
 | x::r=>by
  have ih:=split_free c r
  rw [bE] at ih
  rw [ak]
  by_cases h:x=c
  ·rw [if_pos h,bE c r]
   exact fun p hp=>(List.mem_cons.mp hp).elim (fun e=>e▸List.not_mem_nil) (ih p)
  ·rw [if_neg h]
   intro p hp
   rcases List.mem_cons.mp hp with rfl | hp
   ·exact fun q=>(List.mem_cons.mp q).elim (fun e=>h e.symm) (ih _ List.mem_cons_self)
   ·exact ih p (List.mem_cons_of_mem _ hp)
theorem kl {c:Nat}: ∀ {p:List Nat},c ∉ p→ak c p=[p]
 | [],_=>rfl
 | x::r,h=>by
  rw [ak,if_neg (fun e:x=c=>h (e▸List.mem_cons_self)),kl fun q=>h (List.mem_cons_of_mem _ q)]; rfl
theorem iG {c:Nat} {w:List Nat}: ∀ {p:List Nat},c ∉ p→ak c (p++c::w)=p::ak c w
 | [],_=>by rw [List.nil_append,ak,if_pos rfl]
 | x::r,h=>by
  rw [List.cons_append,ak,if_neg (fun e:x=c=>h (e▸List.mem_cons_self)),iG fun q=>h (List.mem_cons_of_mem _ q)]; rfl
theorem eF {c:Nat}: ∀ {ps:List (List Nat)},ps≠[]→(∀ p∈ps,c ∉ p)→ak c (aN [c] ps)=ps
 | [],h,_=>absurd rfl h
 | [p],_,h=>by rw [aN,List.flatMap_nil,List.append_nil]; exact kl (h p List.mem_cons_self)
 | p::q::r,_,h=>by
  have ih:=eF (c:=c) (ps:=q::r) (fun e=>nomatch e) fun x hx=>h x (List.mem_cons_of_mem _ hx)
  have:aN [c] (p::q::r)=p++c::aN [c] (q::r):=rfl
  rw [this,iG (h p List.mem_cons_self),ih]
theorem dz (c:Nat): ∀ w,∀ p∈ak c w,p.length≤w.length
 | []=>fun p hp=>by rw [List.mem_singleton.mp hp]; exact Nat.le_refl _
 | x::r=>by
  have ih:=dz c r
  rw [bE] at ih
  rw [ak]
  by_cases h:x=c
  ·rw [if_pos h,bE c r]
   exact fun p hp=>(List.mem_cons.mp hp).elim (fun e=>e▸Nat.zero_le _) fun q=>Nat.le_succ_of_le (ih p q)
  ·rw [if_neg h]
   intro p hp
   rcases List.mem_cons.mp hp with rfl | hp
   ·exact Nat.succ_le_succ (ih _ List.mem_cons_self)
   ·exact Nat.le_succ_of_le (ih p (List.mem_cons_of_mem _ hp))
noncomputable def qk (w:List Nat):Bool:=decide (w.take 1=[45])
noncomputable def cm (w:List Nat):List Nat:=if qk w then w.drop 1 else w
noncomputable def oP (w:List Nat):Int:=if qk w then -(oU (cm w):Int) else oU (cm w)
theorem mV {w:List Nat} (h:qk w=true):w=45::cm w:=by
 rw [cm,if_pos h]
 have h:=of_decide_eq_true h
 cases w with
 | nil=>cases h
 | cons x r=>
  have:x=45:=(List.cons.inj h).1
  rw [this]; rfl
theorem qU {cs:List Nat} (h:oJ cs):oU cs < 10 ^ cs.length:=by
 have key: ∀ (cs:List Nat) (a:Nat),oJ cs→cs.foldl (fun a c=>a*10+(c - 48)) a < (a+1)*10 ^ cs.length:=by
  intro cs
  induction cs with
  | nil=>intro a _; rw [List.foldl_nil,List.length_nil,Nat.pow_zero,Nat.mul_one]; exact Nat.lt_succ_self a
  | cons c cs ih=>
   intro a h
   have hc:=h c List.mem_cons_self
   refine Nat.lt_of_lt_of_le (ih (a*10+(c - 48)) fun x hx=>h x (List.mem_cons_of_mem _ hx)) ?_
   rw [List.length_cons,Nat.pow_succ,Nat.mul_comm (10 ^ cs.length) 10,← Nat.mul_assoc]
   exact Nat.mul_le_mul_right _ (by lia)
 have:=key cs 0 h
 rw [Nat.zero_add,Nat.one_mul] at this
 exact this
theorem oX {w:List Nat} (h:oJ (cm w)):(oP w).natAbs < 10 ^ (cm w).length:=by
 have:=qU h
 unfold oP
 by_cases q:qk w=true
 ·rw [if_pos q]; lia
 ·rw [if_neg q]; lia
theorem jh {H:List HO} {w:List Nat} (h:oJ (cm w)) (h0:cm w≠[]) (hl:(cm w).length≤300):Blt H .int [.str w] (.int (oP w)):=by
 by_cases q:qk w=true
 ·have e:=mV q
  have:Blt H .int [.str (45::cm w)] (.int (-(oU (cm w):Int))):=.intN h h0 hl
  rw [oP,if_pos q]; rw [← e] at this; exact this
 ·have e:cm w=w:=if_neg q
  rw [oP,if_neg q,e]; rw [e] at h h0 hl; exact .intT h h0 hl
theorem gU (i:Int):cm (ao i)=ao (i.natAbs:Int)∧oP (ao i)=i:=by
 have dv:=gZ i.natAbs
 cases i with
 | ofNat m=>
  have q: ¬ qk (ao (m:Int))=true:=fun q=>by
   have e:=mV q
   have:=eg m 45 (by rw [e]; exact List.mem_cons_self)
   exact absurd this.1 (by decide)
  have e:cm (ao (m:Int))=ao (m:Int):=if_neg q
  refine ⟨e,?_⟩
  show oP (ao (m:Int))=m
  rw [oP,if_neg q,e]; exact congrArg (fun n:Nat=>(n:Int)) dv
 | negSucc m=>
  have e0:ao (Int.negSucc m)=45::ao ((Int.negSucc m).natAbs:Int):=fx m
  have q:qk (ao (Int.negSucc m))=true:=by rw [qk,e0]; rfl
  have e:cm (ao (Int.negSucc m))=ao ((Int.negSucc m).natAbs:Int):=by rw [cm,if_pos q,e0]; rfl
  refine ⟨e,?_⟩
  rw [oP,if_pos q,e,dv]; rfl
theorem lY {m:Nat} {r:List Nat} (h:ao (m:Int)=48::r):m=0:=by
 have f:oJ (48::r):=h▸eg m
 have d:oU (48::r)=m:=h▸gZ m
 have d:oU r=m:=d
 have lt:=qU (cs:=r) fun c hc=>f c (List.mem_cons_of_mem _ hc)
 rw [d] at lt
 cases r with
 | nil=>exact Nat.lt_one_iff.mp lt
 | cons x r=>
  have:=bS (m:=m) (k:=(x::r).length) (Nat.succ_pos _) lt
  rw [h] at this
  exact absurd this (Nat.not_succ_le_self _)
open Classical in
noncomputable def num (w:List Nat):Option Int:=if cm w≠[]∧(cm w).length≤60∧¬ ((cm w).take 1=[48]∧w≠[48])∧oJ (cm w) then some (oP w) else none
theorem jF {w:List Nat} {i:Int} (h:num w=some i):i.natAbs < 10 ^ 60∧∀ H,Blt H .int [.str w] (.int i):=by
 unfold num at h
 split at h
 ·rename_i q
  cases h
  exact ⟨Nat.lt_of_lt_of_le (oX q.2.2.2) (Nat.pow_le_pow_right (by decide) q.2.1),fun H=>jh q.2.2.2 q.1 (Nat.le_trans q.2.1 (by decide))⟩
 ·cases h
theorem fq {i:Int} (h:i.natAbs < 10 ^ 60):num (ao i)=some i:=by
 obtain ⟨e1,e2⟩:=gU i
 unfold num
 rw [if_pos,e2]
 rw [e1]
 refine ⟨hF _,bS (by decide) h,fun q=>?_,eg _⟩
 obtain ⟨q1,q2⟩:=q
 cases e:ao (i.natAbs:Int) with
 | nil=>exact hF _ e
 | cons x r=>
  rw [e] at q1
  have:x=48:=(List.cons.inj q1).1
  subst this
  have z:=lY e
  have:i=0:=Int.natAbs_eq_zero.mp z
  subst this
  exact q2 (by decide)
open Classical in
noncomputable def nof (most:Nat) (w:List Nat):Option Int:=if (1≤(cm w).length∧(cm w).length≤most)∧oJ (cm w) then some (oP w) else none
theorem sC {most:Nat} {w:List Nat} {i:Int} (h:nof most w=some i):i.natAbs < 10 ^ most:=by
 unfold nof at h
 split at h
 ·rename_i q
  cases h
  exact Nat.lt_of_lt_of_le (oX q.2) (Nat.pow_le_pow_right (by decide) q.1.2)
 ·cases h
theorem ou {most:Nat} {i:Int} (h:(ao (i.natAbs:Int)).length≤most):nof most (ao i)=some i:=by
 obtain ⟨e1,e2⟩:=gU i
 unfold nof
 rw [if_pos,e2]
 rw [e1]
 exact ⟨⟨List.length_pos_iff.mpr (hF _),h⟩,eg _⟩
end
noncomputable section
open PySem
section
variable {Φ:Orc} {G:String→Option V} {st st₁ st₂:St} {a:E} {es:Es} {va v:V} {f:String}
noncomputable def Aw (Φ:Orc) (G:String→Option V) (es:Es) (st:St) (c:String) (st':St):Prop:=∀ (Q:List V→St→Prop) (X:String→St→Prop),X c st'→wEs Φ G es st Q X
theorem ub {c:String} (h₁:Ev Φ G a st v st₁) (h₂:Aw Φ G es st₁ c st₂):Aw Φ G (.cons a es) st c st₂:=fun _ X q=>h₁ _ X (h₂ _ X q)
theorem uc {c:String} (h₁:EvX Φ G a st c st₁):Aw Φ G (.cons a es) st c st₁:=fun _ X q=>h₁ _ X q
theorem sM {m c:String} {j:Nat} {fs:List (String×V)} (h₁:Ev Φ G a st va st₁) (o:fc st₁.H va j fs) (e:fs.lookup m=.none) (h₂:Aw Φ G es st₁ c st₂):EvX Φ G (.mcall f m a es) st c st₂:=fun _ X q=>h₁ _ X ⟨⟨j,fs,o,e⟩,h₂ _ X q⟩
end
theorem gV (c:Nat):c∈[48,49,50,51,52,53,54,55,56,57] ↔ 48≤c∧c≤57:=by
 have e:[48,49,50,51,52,53,54,55,56,57]=List.range' 48 10:=rfl
 rw [e,List.mem_range'_1]
 exact ⟨fun h=>⟨h.1,Nat.lt_succ_iff.mp h.2⟩,fun h=>⟨h.1,Nat.lt_succ_iff.mpr h.2⟩⟩
section
variable {C:Cx} {k:Nat} {H:List HO}
theorem lQ (w:List Nat):eqB (.str (slice w (bM w.length none) (bQ w.length (some (1:Int))))) (.str [45])=qk w:=by
 rw [bx,show ((1:Int))=((1:Nat):Int) from rfl,dX]; rfl
noncomputable def oG:Ss:=
 (.cons (.ite (.not (.cmp2 .LtE .LtE (.int 1) (.blt .len (.cons (.var "figures") .nil)) (.var "most"))) (.cons (.raise "NoStore")
 .nil) .nil)
 (.cons (.for_ "sign" (.var "figures") (.cons (.ite (.cmp .NotIn (.var "sign") (.str [48,49,50,51,52,53,54,55,56,57])) (.cons (.raise "NoStore")
 .nil) .nil)
 .nil))
 (.cons (.ret (.blt .int (.cons (.var "word") .nil)))
 .nil)))
theorem mU {w:List Nat} {most:Nat} {Q:Flow→St→Prop} {X:String→St→Prop}
  (tail: ∀ st:St,st.H=H→st.s "figures" =some (.str (cm w))→st.s "word" =some (.str w)→st.s "most" =some (.int most)→wSs (Calls C k) C.glo oG st Q X):
  wSs (Calls C k) C.glo dr ⟨dy ["word", "most"] [.str w,.int most],H⟩ Q X:=by
 refine aA (aa rfl) ?_
 cases q:qk w with
 | true=>
  refine bl (ae (bw (aa rfl) rfl ac (.str _)) ag (.eq (.self _) (.self _) rfl rfl) ((lQ w).trans q)) (aA (aV (aa rfl) rfl ac (.str _)) (bC (aL (tail _ rfl ?_ rfl rfl))))
  show some (V.str (slice w (bM _ (some ((1:Nat):Int))) (bQ _ none)))=_
  rw [ck,cm,if_pos q]
 | false=>
  refine aR (ae (bw (aa rfl) rfl ac (.str _)) ag (.eq (.self _) (.self _) rfl rfl) ((lQ w).trans q)) (tail _ rfl ?_ rfl rfl)
  show some (V.str w)=_
  rw [cm,q]; rfl
theorem zd (F:bO C "number_of" ["word", "most"] dr) {w:List Nat} {most:Nat} {i:Int} (h:nof most w=some i) (hm:most≤300):Calls C (k+1) "number_of" [.str w,.int most] H (.ok (.int i)) H:=by
 unfold nof at h
 split at h
 ·rename_i q
  cases h
  obtain ⟨⟨q1,q2⟩,fg⟩:=q
  refine aq F rfl (mU ?_)
  rintro ⟨s,H'⟩ e1 e2 e3 e4
  have e1:H'=H:=e1
  subst e1
  refine aR (ir (cB ac (aB (aH (aa (by exact e2))) (.len (.str _))) (bH (Int.ofNat_le.mpr q1)) (aa (by exact e4)) (bH (Int.ofNat_le.mpr q2)))) ?_
  refine ip (fun l st=>st.H=H'∧st.s "word" =some (.str w)) (aa (by exact e2)) (.str _) ⟨rfl,e3⟩ ?_ ?_
  ·rintro l v ⟨s,H'⟩ hw ⟨q1,q2⟩ Q' hQ
   have q1:H'=_:=q1
   subst q1
   obtain ⟨hl,rfl⟩:=cR hw
   refine aR (ae (aa rfl) ag (.nin (.sign _ _)) ?_) (bC (hQ _ (by exact ⟨rfl,q2⟩)).1)
   rw [decide_eq_true ((gV _).mpr (fg _ (List.getElem_mem hl)))]; rfl
  ·rintro ⟨s,H'⟩ ⟨q3,q4⟩
   have q3:H'=_:=q3
   subst q3
   exact aP (aB (aH (aa (by exact q4))) (jh fg (List.length_pos_iff.mp q1) (Nat.le_trans q2 hm))) (aJ rfl trivial)
 ·cases h
theorem zc (F:bO C "number_of" ["word", "most"] dr) (hz:az H) {w:List Nat} {most:Nat} (h:nof most w=none):Calls C (k+1) "number_of" [.str w,.int most] H (.err "NoStore") H:=by
 refine iW F rfl hz (mU ?_)
 rintro ⟨s,H'⟩ e1 e2 e3 e4
 have e1:H'=H:=e1
 subst e1
 have fin:("NoStore" = "NoStore" ∧az H'∧H'.take H'.length=H'):=qL hz
 unfold nof at h
 split at h
 ·cases h
 ·rename_i q
  by_cases q1:1≤(cm w).length
  ·by_cases q2:(cm w).length≤most
   ·refine aR (ir (cB ac (aB (aH (aa (by exact e2))) (.len (.str _))) (bH (Int.ofNat_le.mpr q1)) (aa (by exact e4)) (bH (Int.ofNat_le.mpr q2)))) ?_
    refine ip (fun l st=>st.H=H'∧oJ ((cm w).take l)) (aa (by exact e2)) (.str _) ⟨rfl,fun c hc=>by rw [List.take_zero] at hc; cases hc⟩ ?_ ?_
    ·rintro l v ⟨s,H''⟩ hw ⟨q3,q4⟩ Q' hQ
     have q3:H''=_:=q3
     subst q3
     obtain ⟨hl,rfl⟩:=cR hw
     by_cases q5:48≤(cm w)[l]∧(cm w)[l]≤57
     ·refine aR (ae (aa rfl) ag (.nin (.sign _ _)) (by rw [decide_eq_true ((gV _).mpr q5)]; rfl)) (bC (hQ _ ⟨rfl,fun c hc=>?_⟩).1)
      rw [List.take_succ_eq_append_getElem hl] at hc
      rcases List.mem_append.mp hc with hc | hc
      ·exact q4 c hc
      ·rw [List.mem_singleton.mp hc]; exact q5
     ·exact bl (ae (aa rfl) ag (.nin (.sign _ _)) (by rw [decide_eq_false (fun z=>q5 ((gV _).mp z))]; rfl)) (cP hz ⟨hz,fin⟩)
    ·rintro st ⟨q3,q4⟩
     rw [List.length_map,List.take_length] at q4
     exact (q ⟨⟨q1,q2⟩,q4⟩).elim
   ·exact bl (lW (cB ac (aB (aH (aa (by exact e2))) (.len (.str _))) (bH (Int.ofNat_le.mpr q1)) (aa (by exact e4)) (fy (Int.ofNat_lt.mpr (Nat.lt_of_not_le q2))))) (cP hz fin)
  ·exact bl (lW (gW ac (aB (aH (aa (by exact e2))) (.len (.str _))) (fy (Int.ofNat_lt.mpr (Nat.lt_of_not_le q1))))) (cP hz fin)
theorem cw {c:Nat} {w:List Nat} (h:w.length≤16000000):Av .split (.str w) [.str [c]] ((ak c w).map .str):=.split h (jy c w) (iE c w) (split_free c w)
theorem uf {us:Ts} {n v:Int} (h1:Ok us) (h2:sW us) (h0:0≤n∧n≤255) (hv:v.natAbs < 10 ^ 60):Ok (bW us n v)∧sW (bW us n v):=BA (d:=(true,n,v)) h1 h2 ⟨h0,hv⟩
noncomputable def Bad (T:List Nat):Prop:=∀ b us,Stk b us→ci b us≠T
theorem sQ (xs:List V):slice xs (bM xs.length (some (1:Int))) (bQ xs.length none)=xs.drop 1:=ck xs 1
theorem wt (F:bO C "read" ["text"] ru) (hz:az H) {T:List Nat} (hT:T.length≤16000000) (bad:Bad T)
  (Gn: ∀ (H:List HO) (w:List Nat) (most:Nat) (i:Int),nof most w=some i→most≤300→Calls C k "number_of" [.str w,.int most] H (.ok (.int i)) H)
  (Gx: ∀ (H:List HO) (w:List Nat) (most:Nat),az H→nof most w=none→Calls C k "number_of" [.str w,.int most] H (.err "NoStore") H)
  (Gi: ∀ b:Nat,1≤b→b≤64→Calls C k "Store.__init__" [.loc (H.length+1),.int b] (H++[HO.attrs []]++[HO.obj H.length]) (.ok .none) ((H++[HO.attrs []]++[HO.obj H.length]).set H.length (stA b [])))
  (Gp: ∀ (b:Nat) (us:Ts) (n v:Int),us.length≤1000000→0≤n→n≤255→Calls C k "Store.put" [.loc (H.length+1),.int n,.int v] (H++[stA b us]++[HO.obj H.length]) (.ok (nW us n)) ((H++[stA b us]++[HO.obj H.length]).set H.length (stA b (bW us n v))))
  (Gw: ∀ (b:Nat) (us:Ts),Stk b us→Calls C k "written" [.loc (H.length+1)] (H++[stA b us]++[HO.obj H.length]) (.ok (.str (ci b us))) (H++[stA b us]++[HO.obj H.length])):
  Calls C (k+1) "read" [.str T] H (.err "NoStore") H:=by
 refine iW F rfl hz (aA (cU (aa rfl) (.split _) (aH ag) (cw hT) .lst) ?_)
 have ln:=dz 10 T
 rw [bE 10 T] at ln ⊢
 generalize (ak 10 T).headD []=r0 at ln ⊢
 generalize (ak 10 T).tail=rs at ln ⊢
 have i0: ∀ H:List HO,Idx H (.lst ((r0::rs).map .str)) (.int 0) (.str r0):=fun H=>.seq (.lst _) (by decide) rfl
 have fin: ∀ H':List HO,az H'→H'.take H.length=H→("NoStore" = "NoStore" ∧az H'∧H'.take H.length=H):=fun _ h1 h2=>⟨rfl,h1,h2⟩
 have f0:=fin H hz List.take_length
 by_cases hb:r0.take 6=[98,111,117,110,100,32]
 ·refine aR (ae (bw (am (aa rfl) ac (i0 _)) rfl ac (.str _)) ag (.ne (.self _) (.self _) rfl rfl) (by rw [show ((6:Int))=((6:Nat):Int) from rfl,dX,hb,gY]; rfl)) ?_
  have es:Evs (Calls C k) C.glo (.cons (.slc (.idx (.var "rows") (.int 0)) (.int 6) .omit) (.cons (.int 2) .nil)) ((St.mk (dy ["text"] [.str T]) H).set "rows" (.lst ((r0::rs).map .str))) [.str (r0.drop 6),.int 2] ((St.mk (dy ["text"] [.str T]) H).set "rows" (.lst ((r0::rs).map .str))):=
   cL (cC (aV (am (aa rfl) ac (i0 _)) rfl ac (.str _)) (by rw [show ((6:Int))=((6:Nat):Int) from rfl,ck])) ac
  cases hn:nof 2 (r0.drop 6) with
  | none=>exact te (gf es (Gx _ _ _ hz hn)) f0
  | some bi=>
  refine aA (ai es (Gn _ _ _ _ hn (by decide))) ?_
  by_cases h1:1≤bi
  ·by_cases h2:bi≤64
   ·refine aR (ir (cB ac (aa rfl) (bH h1) ac (bH h2))) ?_
    obtain ⟨b,rfl⟩: ∃ b:Nat,bi=b:=⟨bi.toNat,(Int.toNat_of_nonneg (Int.le_trans (by decide) h1)).symm⟩
    have b1:1≤b:=Int.ofNat_le.mp h1
    have b2:b≤64:=Int.ofNat_le.mp h2
    refine aA (qQ (aH (aa rfl)) (Gi b b1 b2)) ?_
    have nz: ∀ us,az (H++[stA b us]++[HO.obj H.length]):=fun us=>jG hz (fun _=>HO.noConfusion) fun _=>HO.noConfusion
    have tk: ∀ us,(H++[stA b us]++[HO.obj H.length]).take H.length=H:=fun us=>by rw [List.append_assoc,List.take_left]
    have ff:=fun us=>fin _ (nz us) (tk us)
    refine ip (fun l st=>∃ us,st.H=H++[stA b us]++[HO.obj H.length]∧(Ok us∧sW us)∧st.s "store" =some (.loc (H.length+1))∧st.s "text" =some (.str T))
     (aV (aa rfl) rfl ac (.seq (.lst _) .lst)) (items:=rs.map .str) (by rw [sQ]; exact .lst _) ⟨[],by show List.set _ _ _=_; rw [oS],⟨⟨List.Pairwise.nil,fun t h=>by cases h⟩,fun t h=>by cases h⟩,rfl,rfl⟩ ?_ ?_
    ·rintro l w ⟨s,H'⟩ hw ⟨us,e1,e2,e3,e4⟩ Q' hQ
     have e1:H'=_:=e1
     subst e1
     obtain ⟨hl,rfl⟩:=cR hw
     have rl:=ln _ (List.mem_cons_of_mem _ (List.getElem_mem hl))
     generalize rs[l]=row at rl
     refine aA (cU (aa rfl) (.split _) (aH ag) (cw (Nat.le_trans rl hT)) .lst) ?_
     have wn:=dz 32 row
     rw [bE 32 row] at wn ⊢
     generalize (ak 32 row).headD []=w0 at wn ⊢
     generalize (ak 32 row).tail=ws at wn ⊢
     refine ip (fun l st=>∃ us,st.H=H++[stA b us]++[HO.obj H.length]∧(Ok us∧sW us)∧st.s "store" =some (.loc (H.length+1))∧st.s "text" =some (.str T))
      (aV (aa rfl) rfl ac (.seq (.lst _) .lst)) (items:=ws.map .str) (by rw [sQ]; exact .lst _) ⟨us,rfl,e2,e3,e4⟩ ?_ ?_
     ·rintro m w ⟨s,H'⟩ hw ⟨us,q1,q2,q3,q4⟩ Q'' hQ'
      have q1:H'=_:=q1
      subst q1
      obtain ⟨hm,rfl⟩:=cR hw
      have wl:=wn _ (List.mem_cons_of_mem _ (List.getElem_mem hm))
      generalize ws[m]=word at wl
      have f1:=ff us
      refine aA (cU (aa rfl) (.split _) (aH ag) (cw (Nat.le_trans wl (Nat.le_trans rl hT))) .lst) ?_
      by_cases h3:(ak 61 word).length=2
      ·obtain ⟨a,c,hp⟩: ∃ a c,ak 61 word=[a,c]:=by
        match ak 61 word,h3 with
        | [a,c],_=>exact ⟨a,c,rfl⟩
       rw [hp]
       refine aR (ae (aB (aH (aa rfl)) (.len (.seq (.lst _)))) ac df lR) ?_
       cases h4:nof 3 a with
       | none=>exact te (gf (cL (am (aa rfl) ac (.seq (.lst _) (by decide) rfl)) ac) (Gx _ a 3 (nz us) h4)) ⟨nz us,nz us,f1⟩
       | some n=>
       refine aA (ai (cL (am (aa rfl) ac (.seq (.lst _) (by decide) rfl)) ac) (Gn _ a 3 n h4 (by decide))) ?_
       by_cases h5:0≤n
       ·by_cases h6:n≤255
        ·refine aR (ir (cB ac (aa rfl) (bH h5) ac (bH h6))) ?_
         cases h7:nof 60 c with
         | none=>exact uS (sM (aa (by exact q3)) stAt2.at rfl (ub (aa rfl) (uc (gf (cL (am (aa rfl) ac (.seq (.lst _) (by decide) rfl)) ac) (Gx _ c 60 (nz us) h7))))) ⟨nz us,nz us,f1⟩
         | some v=>
         refine rI (jM (aa (by exact q3)) stAt2.at rfl (cL (aa rfl) (ai (cL (am (aa rfl) ac (.seq (.lst _) (by decide) rfl)) ac) (Gn _ c 60 v h7 (by decide)))) (Gp b us n v (Nat.le_trans (qh q2.1) (by decide)) h5 h6)) (bC (hQ' _ ⟨bW us n v,?_,uf q2.1 q2.2 ⟨h5,h6⟩ (sC h7),by exact q3,by exact q4⟩).1)
         show List.set _ _ _=_
         rw [oS]
        ·exact bl (lW (cB ac (aa rfl) (bH h5) ac (fy (Int.not_le.mp h6)))) (cP (nz us) ⟨nz us,nz us,f1⟩)
       ·exact bl (lW (gW ac (aa rfl) (fy (Int.not_le.mp h5)))) (cP (nz us) ⟨nz us,nz us,f1⟩)
      ·exact bl (ae (aB (aH (aa rfl)) (.len (.seq (.lst _)))) ac df (by rw [jP,List.length_map,decide_eq_false (fun z:(((ak 61 word).length:Nat):Int)=2=>h3 (Int.ofNat.inj z))]; rfl)) (cP (nz us) ⟨nz us,nz us,f1⟩)
     ·rintro ⟨s,H'⟩ ⟨us,q1,q2,q3,q4⟩
      exact bC (hQ _ ⟨us,q1,q2,q3,q4⟩).1
    ·rintro ⟨s,H'⟩ ⟨us,e1,e2,e3,e4⟩
     have e1:H'=_:=e1
     subst e1
     have g:Stk b us:=⟨b1,b2,e2.1,e2.2⟩
     exact bl (ae (ai (aH (aa (by exact e3))) (Gw b us g)) (aa (by exact e4)) (.ne (.self _) (.self _) rfl rfl) (by rw [bx,decide_eq_false (bad b us g)]; rfl)) (cP (nz us) (ff us))
   ·exact bl (lW (cB ac (aa rfl) (bH h1) ac (fy (Int.not_le.mp h2)))) (cP hz f0)
  ·exact bl (lW (gW ac (aa rfl) (fy (Int.not_le.mp h1)))) (cP hz f0)
 ·exact bl (ae (bw (am (aa rfl) ac (i0 _)) rfl ac (.str _)) ag (.ne (.self _) (.self _) rfl rfl) (by rw [show ((6:Int))=((6:Nat):Int) from rfl,dX,bx,decide_eq_false hb]; rfl)) (cP hz f0)
end
end
noncomputable section
open PySem
noncomputable def jd:Ss:=
 (.cons (.asg "_law_rows" (.list (.cons (.bin .Add (.str [98,111,117,110,100,32]) (.blt .str (.cons (.var "_law_bound") .nil))) .nil)))
 (.cons (.asg "_law_waiting" (.list (.cons (.tup (.cons (.str []) (.cons (.compX (.tup (.cons (.call "_law_signs" (.cons (.idx (.var "_law_one") (.int 0)) .nil)) (.cons (.var "_law_one") .nil))) "_law_one" (.blt .sorted (.cons (.var "_law_plain") .nil))) .nil))) .nil)))
 (.cons (.whl (.cmp .NotEq (.var "_law_waiting") (.list .nil)) (.cons (.asg "_law_bits" (.idx (.idx (.var "_law_waiting") (.int 0)) (.int 0)))
 (.cons (.asg "_law_inside" (.idx (.idx (.var "_law_waiting") (.int 0)) (.int 1)))
 (.cons (.asg "_law_waiting" (.slc (.var "_law_waiting") (.int 1) .omit))
 (.cons (.ite (.cmp .LtE (.blt .len (.cons (.var "_law_inside") .nil)) (.var "_law_bound")) (.cons (.ex (.mth .append (.var "_law_rows") (.cons (.mth .join (.str [32]) (.cons (.bin .Add (.list (.cons (.bin .Add (.var "_law_bits") (.str [58])) .nil)) (.compX (.bin .Add (.bin .Add (.blt .str (.cons (.idx (.idx (.var "_law_one") (.int 1)) (.int 0)) .nil)) (.str [61])) (.blt .str (.cons (.idx (.idx (.var "_law_one") (.int 1)) (.int 1)) .nil))) "_law_one" (.var "_law_inside"))) .nil)) .nil)))
 .nil) (.cons (.asg "_law_low" (.compIf (.var "_law_one") "_law_one" (.var "_law_inside") (.cmp .Eq (.idx (.idx (.var "_law_one") (.int 0)) (.blt .len (.cons (.var "_law_bits") .nil))) (.str [48]))))
 (.cons (.asg "_law_high" (.compIf (.var "_law_one") "_law_one" (.var "_law_inside") (.cmp .Eq (.idx (.idx (.var "_law_one") (.int 0)) (.blt .len (.cons (.var "_law_bits") .nil))) (.str [49]))))
 (.cons (.asg "_law_waiting" (.bin .Add (.list (.cons (.tup (.cons (.bin .Add (.var "_law_bits") (.str [48])) (.cons (.var "_law_low") .nil))) (.cons (.tup (.cons (.bin .Add (.var "_law_bits") (.str [49])) (.cons (.var "_law_high") .nil))) .nil))) (.var "_law_waiting")))
 .nil))))
 .nil)))))
 (.cons (.ret (.mth .join (.str [10]) (.cons (.var "_law_rows") .nil)))
 .nil))))
noncomputable def onV (t:Int×Int):V:=.tup [.str (sgn t.1),pr t]
noncomputable def lA (x:Rm):V:=.tup [.str x.1,.lst (x.2.map onV)]
theorem uY (w:List Rm):pl 6 (.lst (w.map lA))=true:=by
 show (false || List.all (w.map lA) (pl 5))=true
 rw [Bool.false_or,List.all_map,List.all_eq_true]
 intro x _
 show (false || List.all [V.str x.1,.lst (x.2.map onV)] (pl 4))=true
 rw [Bool.false_or,List.all_cons,List.all_cons,List.all_nil,Bool.and_true]
 show (true && (false || List.all (x.2.map onV) (pl 3)))=true
 rw [Bool.true_and,Bool.false_or,List.all_map,List.all_eq_true]; exact fun _ _=>rfl
theorem kg (b:Nat) (u w:List Rm):cv b (u++w)=cv b u+cv b w:=by rw [cv,List.map_append,List.sum_append]; rfl
theorem kO (b:Nat) (u w:List Rm):cf b (u++w)=cf b u++cf b w:=by rw [cf,List.flatMap_append]; rfl
theorem rS {H L:List HO} {v:V} {xs:List V} (h:fk H v xs):fk (H++L) v xs:=by
 cases h with
 | lst=>exact .lst _
 | loc h=>exact .loc (by rw [List.getElem?_append_left (List.getElem?_eq_some_iff.mp h).1]; exact h)
structure zn (H:List HO) (b:Nat) (ts:Ts) (m:Nat) (st:St) (w fd:List Rm):Prop where
 tab:st.H=H++[.list ((bZ b::fd.map ij).map .str)]
 wait:st.s "_law_waiting" =some (.lst (w.map lA))
 rows:st.s "_law_rows" =some (.loc H.length)
 bnd:st.s "_law_bound" =some (.int b)
 ok: ∀ x∈w,WOk x
 all:fd++cf b w=aw b ts
 left:cv b w=m
section
variable {C:Cx} {k:Nat} {H:List HO}
theorem wv (F:bO C "_law_text" ["_law_plain", "_law_bound"] jd) {b:Nat} {ts us:Ts} {v:V} (g:Stk b ts) (hv:fk H v (us.map pr)) (pm:ts.Perm us) (Gs: ∀ (H:List HO) (n:Int),Calls C k "_law_signs" [.int n] H (.ok (.str (sgn n))) H):
  Calls C (k+1) "_law_text" [v,.int b] H (.ok (.str (ci b ts))) H:=by
 have hb:=g.b1
 have ho:=g.ok
 have ul:us.length≤256:=by rw [← pm.length_eq]; exact qh ho
 refine aq F rfl (aA (bg (aH (af ag (aB (aH (aa rfl)) (.str ?_)) (.cat ?_))) .loc) (aA (bg (aH (cY (cL ag (gk (g:=pr) (q:=onV) (rs:=ts) (fw (aH (aa rfl)) (.sorted (ys:=ts.map pr) (rS hv) (.duos (duos _)) ?_ (pm.map pr) (kf ho.up)) .lst) (.lst _) (fun t _=>cY (cL (ai (aH (am (aa rfl) ac cz)) (Gs _ t.1)) (aa rfl))) .lst)))) .lst) ?_))
 ·have:=g.b64; exact Nat.lt_of_le_of_lt this (by decide)
 ·have:=hJ g.b64
  rw [bZ,List.length_append] at this
  exact Nat.le_trans this (by decide)
 ·rw [List.length_map]; exact Nat.le_trans ul (by decide)
 refine xP (fun m st=>∃ w fd,zn H b ts m st w fd) (cv b [([],ts)]) ⟨[([],ts)],[],⟨rfl,rfl,rfl,rfl,fun x hx=>?_,?_,rfl⟩⟩ ?_ ?_
 ·rw [List.mem_singleton.mp hx]; exact ⟨Nat.zero_le _,nt _,ho⟩
 ·rw [cf,List.flatMap_singleton]; rfl
 ·rintro m ⟨s,H'⟩ ⟨w,fd,⟨e1,e2,e3,e4,e5,e6,e7⟩⟩
  have e1:H'=_:=e1
  subst e1
  cases w with
  | nil=>cases e7
  | cons x w=>
  have px:WOk x:=e5 x List.mem_cons_self
  have pw: ∀ y∈w,WOk y:=fun y hy=>e5 y (List.mem_cons_of_mem _ hy)
  have t0:cv b (x::w)=cv b [x]+cv b w:=kg b [x] w
  have f0:cf b (x::w)=cf b [x]++cf b w:=kO b [x] w
  rw [t0] at e7
  rw [f0] at e6
  have few:=cx b ts
  have len:=congrArg List.length e6
  rw [List.length_append,List.length_append] at len
  have i0: ∀ H:List HO,Idx H (.lst ((x::w).map lA)) (.int 0) (lA x):=fun H=>.seq (.lst _) (by decide) rfl
  refine ⟨_,ae (aa (by exact e2)) (bg eA .lst) (.ne (.self _) (.self _) (uY _) rfl) rfl,fun Q' hQ=>?_⟩
  refine aA (am (am (aa (by exact e2)) ac (i0 _)) ac (.tup (by decide) rfl)) (aA (am (am (aa (by exact e2)) ac (i0 _)) ac (.tup (by decide) rfl)) ?_)
  refine aA (cC (aV (aa (by exact e2)) rfl ac (.seq (.lst _) .lst)) (v':=.lst (w.map lA)) (congrArg V.lst (ck ((x::w).map lA) 1))) ?_
  by_cases hl:x.2.length≤b
  ·obtain ⟨t1,t2⟩:=iB (w:=[]) hl
   have t1:cv b [x]=1:=t1
   have t2:cf b [x]=[x]:=t2
   have mx:x∈aw b ts:=by rw [← e6,t2]; exact List.mem_append.mpr (.inr (List.mem_append.mpr (.inl List.mem_cons_self)))
   obtain ⟨h1,h2,h3,h4⟩:=g.room mx
   have rl:=g.row mx
   refine bl (ae (aB (aH (aa rfl)) (.len (.seq (.lst _)))) (aa (by exact e4)) (.le _ _) (decide_eq_true (by rw [List.length_map]; exact Int.ofNat_le.mpr hl))) ?_
   refine rI (dc (aa (by exact e3)) bF (aH (cC (iS ag (.join _) (aH (fM (xs:=[V.str (x.1++[58])]) (ys:=x.2.map fun t=>V.str (bV t)) (bg (aH (af (aa rfl) ag (.cat ?_))) .lst) (gk (g:=onV) (q:=fun t=>V.str (bV t)) (rs:=x.2) (aa rfl) (.lst _) (fun t ht=>?_) .lst) (.lst _) (.lst _) ?_ .lst))
    (.join (ss:=eE x) ?_ ?_)) (v':=.str (ij x)) (congrArg V.str (eG x)))) bF ?_) (bC (aL (bC (hQ _ ⟨w,fd++[x],⟨?_,rfl,by exact e3,by exact e4,pw,?_,?_⟩⟩).1)))
   ·rw [List.length_singleton]; exact lin [_] [(1,.v 0,.n 8)] 1 (.a (.v 0) (.n 1)) (.n 16000000) rfl h1
   ·obtain ⟨l1,l2⟩:=jj (h3 t ht).1 (h3 t ht).2
    have a1:t.1.natAbs < 10 ^ 100:=Nat.lt_of_le_of_lt (by have:=(h3 t ht).1.1; have:=(h3 t ht).1.2; lia:t.1.natAbs≤255) (by decide)
    have a2:t.2.natAbs < 10 ^ 100:=Nat.lt_trans (h3 t ht).2 (by decide)
    refine cC (af (af (aB (aH (am (am (aa rfl) ac (.tup (by decide) rfl)) ac cz)) (.str a1)) ag (.cat ?_)) (aB (aH (am (am (aa rfl) ac (.tup (by decide) rfl)) ac jD)) (.str a2)) (.cat ?_)) (congrArg V.str ?_)
    ·simp only [List.length_singleton]; exact lin [_] [(1,.v 0,.n 4)] 1 (.a (.v 0) (.n 1)) (.n 16000000) rfl l1
    ·simp only [List.length_append,List.length_singleton]; exact lin [_,_] [(1,.v 0,.n 4),(1,.v 1,.n 61)] 1 (.a (.a (.v 0) (.n 1)) (.v 1)) (.n 16000000) rfl l1 l2
    ·rw [bV,List.append_assoc]; rfl
   ·rw [List.length_map]; show 1+x.2.length≤_; exact lin [_] [(1,.v 0,.n 64)] 1 (.a (.n 1) (.v 0)) (.n 16000000) rfl h2
   ·have e:(eE x).map V.str=[V.str (x.1++[58])]++x.2.map fun t=>V.str (bV t):=by
     rw [eE]; show V.str (x.1++[58])::(x.2.map bV).map V.str=_
     rw [List.map_map]; rfl
    rw [e]; exact .lst _
   ·rw [eG,eE,List.length_cons,List.length_map]; show _+(x.2.length+1+1)*2≤_; lia
   ·rw [List.length_map,List.length_cons,List.length_map]; exact lin [_,_,_,_] [(1,.v 1,.n 256),(1,.a (.v 0) (.a (.v 2) (.v 3)),.v 1)] 1 (.a (.a (.v 0) (.n 1)) (.n 1)) (.n 16000000) rfl few (l_e len)
   ·show (H++[_]).set H.length _=_
    rw [io,List.map_append,List.map_cons,List.map_cons,List.map_append]; rfl
   ·rw [← e6,t2,List.append_assoc]
   ·rw [t1] at e7; exact l_a (li [_,m] [([0,1],[2,0])] [1] [2] rfl (l_e e7)) (li [m,_] [([1,0],[0,2])] [1] [2] rfl (l_s e7))
  ·obtain ⟨h1,h2,h3,_⟩:=px.split hb hl
   obtain ⟨t1,t2⟩:=iC (w:=[]) hb px hl
   have t1:cv b [x]=cv b [(x.1++[48],half x.1.length 48 x.2),(x.1++[49],half x.1.length 49 x.2)]+1:=t1
   have t2:cf b [x]=cf b [(x.1++[48],half x.1.length 48 x.2),(x.1++[49],half x.1.length 49 x.2)]:=t2
   refine uR (ae (aB (aH (aa rfl)) (.len (.seq (.lst _)))) (aa (by exact e4)) (.le _ _) (decide_eq_false (by rw [List.length_map]; exact fun q=>hl (Int.ofNat_le.mp q)))) ?_
   refine aA (cZ (g:=onV) (q:=onV) (p:=fun t=>decide (sAt t.1 x.1.length=48)) (rs:=x.2) (aa rfl) (.lst _) (fun t _=>ae (am (am (aa rfl) ac (.tup (by decide) rfl)) (aB (aH (aa rfl)) (.len (.str _))) (.str (Int.natCast_nonneg _) (gF _ h1))) ag (.eq (.self _) (.self _) rfl rfl) (jO _ _)) (fun _ _ _=>aa rfl) .lst) ?_
   refine aA (cZ (g:=onV) (q:=onV) (p:=fun t=>decide (sAt t.1 x.1.length=49)) (rs:=x.2) (aa rfl) (.lst _) (fun t _=>ae (am (am (aa rfl) ac (.tup (by decide) rfl)) (aB (aH (aa rfl)) (.len (.str _))) (.str (Int.natCast_nonneg _) (gF _ h1))) ag (.eq (.self _) (.self _) rfl rfl) (jO _ _)) (fun _ _ _=>aa rfl) .lst) ?_
   have lw:w.length≤256:=by
    have a1: ∀ l:List Rm,l.length≤(cf b l).length:=fun l=>by
     induction l with
     | nil=>exact Nat.le_refl _
     | cons y l ih=>
      rw [cf,List.flatMap_cons,List.length_append,List.length_cons]
      have:1≤(eo b (8 - y.1.length) y.1 y.2).length:=List.length_pos_iff.mpr (gR _ _ _)
      have ih:l.length≤(List.flatMap (fun x=>eo b (8 - x.1.length) x.1 x.2) l).length:=ih
      exact li [_,_,_] [([0],[2]),([1],[3])] [1,0] [2,3] rfl this ih
    have:=a1 w
    exact lin [_,_,_,_,_] [(1,.v 1,.n 256),(1,.a (.v 2) (.a (.v 3) (.v 4)),.v 1),(1,.v 0,.v 4)] 1 (.v 0) (.n 256) rfl few (l_e len) this
   refine aA (fM (bg (cL (cY (cL (af (aa rfl) ag (.cat ?_)) (aa rfl))) (cY (cL (af (aa rfl) ag (.cat ?_)) (aa rfl)))) .lst) (aa rfl) (.lst _) (.lst _) ?_ .lst) (bC (aL (bC (hQ _ ⟨[(x.1++[48],half x.1.length 48 x.2),(x.1++[49],half x.1.length 49 x.2)]++w,fd,⟨rfl,rfl,by exact e3,by exact e4,fun y hy=>?_,?_,?_⟩⟩).1)))
   ·rw [List.length_singleton]; exact lin [_] [(1,.a (.v 0) (.n 1),.n 8)] 1 (.a (.v 0) (.n 1)) (.n 16000000) rfl h1
   ·rw [List.length_singleton]; exact lin [_] [(1,.a (.v 0) (.n 1),.n 8)] 1 (.a (.v 0) (.n 1)) (.n 16000000) rfl h1
   ·rw [List.length_map]; show 2+w.length≤_; exact lin [_] [(1,.v 0,.n 256)] 1 (.a (.n 2) (.v 0)) (.n 16000000) rfl lw
   ·rcases List.mem_append.mp hy with hy | hy
    ·rcases List.mem_cons.mp hy with rfl | hy
     ·exact h2
     ·rw [List.mem_singleton.mp hy]; exact h3
    ·exact pw y hy
   ·rw [kO,← t2,← e6]
   ·rw [kg]; exact l_a (li [_,_,m,_] [([4,2],[3,0]),([1,0],[4])] [1,2] [3] rfl (l_e e7) (l_s t1)) (li [m,_,_,_] [([1,0],[4,3]),([4],[2,0])] [1] [2,3] rfl (l_s e7) (l_e t1))
 ·rintro ⟨s,H'⟩ ⟨w,fd,⟨e1,e2,e3,e4,e5,e6,e7⟩⟩
  have e1:H'=_:=e1
  subst e1
  have hw:w=[]:=by
   cases w with
   | nil=>rfl
   | cons x w=>
    have:1≤(eo b (8 - x.1.length) x.1 x.2).length:=List.length_pos_iff.mpr (gR _ _ _)
    rw [cv,List.map_cons,List.sum_cons] at e7
    exact (l_z (lin [_,_,_] [(1,.a (.v 0) (.v 1),.n 0),(2,.n 1,.v 2),(1,.m 2 (.v 2),.a (.v 0) (.n 1))] 0 (.n 1) (.n 0) rfl (l_e e7) this (l_g _ _))).elim
  subst hw
  have e6:fd=aw b ts:=(List.append_nil fd).symm.trans e6
  subst e6
  have hs:=g.text
  refine ⟨_,ae (aa (by exact e2)) (bg eA .lst) (.ne (.self _) (.self _) rfl rfl) rfl,aP (iS ag (.join _) (aH (aa (by exact e3))) (.join (ss:=dw b ts) (.loc bF) (Nat.le_trans hs (by decide)))) ⟨rfl,trivial,?_⟩⟩
  show (H++[_]).take H.length=H
  rw [List.take_left]
end
end
noncomputable section
open PySem
noncomputable def iM {α β:Type} (f:β→α→Option β):β→List α→Option β
 | b,[]=>some b
 | b,a::r=>(f b a).bind fun b'=>iM f b' r
theorem jE {α β:Type} {f:β→α→Option β} (ys:List α): ∀ (xs:List α) (b:β),iM f b (xs++ys)=(iM f b xs).bind fun b'=>iM f b' ys
 | [],b=>rfl
 | x::xs,b=>by
  show (f b x).bind _=((f b x).bind _).bind _
  cases f b x with
  | none=>rfl
  | some b'=>exact jE ys xs b'
theorem gN {α β:Type} {f:β→α→Option β} {xs:List α} {b c:β} {l:Nat} (h:l < xs.length) (e:iM f b (xs.take l)=some c):iM f b (xs.take (l+1))=f c xs[l]:=by
 rw [List.take_succ_eq_append_getElem h,jE,e]
 show (f c xs[l]).bind some=_
 cases f c xs[l]<;>rfl
theorem kD {α β:Type} {f:β→α→Option β} {xs:List α} {b c:β} {l:Nat} (h:l < xs.length) (e:iM f b (xs.take l)=some c) (n:f c xs[l]=none):iM f b xs=none:=by
 have:=gN h e
 rw [n] at this
 rw [← List.take_append_drop (l+1) xs,jE,this]; rfl
theorem eM {α β:Type} {f:β→α→Option β} {P:β→Prop} (hf: ∀ b a c,P b→f b a=some c→P c): ∀ (xs:List α) (b c:β),P b→iM f b xs=some c→P c
 | [],b,c,h,e=>by cases e; exact h
 | x::xs,b,c,h,e=>by
  have e:(f b x).bind (fun b'=>iM f b' xs)=some c:=e
  cases q:f b x with
  | none=>rw [q] at e; cases e
  | some b'=>rw [q] at e; exact eM hf xs b' c (hf b x b' h q) e
noncomputable def qf:List (List Nat)→Option (List Nat×List Nat)
 | [a,c]=>some (a,c)
 | _=>none
theorem qe {l:List (List Nat)} (h:l.length≠2):qf l=none:=by
 match l,h with
 | [],_=>rfl
 | [_],_=>rfl
 | [_,_],h=>exact absurd rfl h
 | _::_::_::_,_=>rfl
open Classical in
noncomputable def fo (us:Ts) (w:List Nat):Option Ts:=(qf (ak 61 w)).bind fun p=>(num p.1).bind fun n=>(num p.2).bind fun v=>if (0≤n∧n≤255)∧n ∉ us.map (·.1) then some (us++[(n,v)]) else none
noncomputable def rL (us:Ts) (r:List Nat):Option Ts:=iM fo us (ak 32 r).tail
open Classical in
noncomputable def ce (T:List Nat):Option (Nat×Ts):=
 if ((ak 10 T).headD []).take 6=[98,111,117,110,100,32] then
  (num (((ak 10 T).headD []).drop 6)).bind fun i=>if 1≤i∧i≤64 then
   (iM rL [] (ak 10 T).tail).bind fun us=>if ci i.toNat (bt [] us)=T then some (i.toNat,bt [] us) else none
  else none
 else none
structure Pok (us:Ts):Prop where
 ne:us.Pairwise fun a b=>a.1≠b.1
 low: ∀ t∈us,0≤t.1∧t.1≤255
 vals:sW us
theorem qc:Pok []:=⟨.nil,(fun t h=>by cases h),(fun t h=>by cases h)⟩
theorem mP {us:Ts} {n v:Int} (h:Pok us) (h1:(0≤n∧n≤255)∧n ∉ us.map (·.1)) (hv:v.natAbs < 10 ^ 60):Pok (us++[(n,v)]):=by
 refine ⟨List.pairwise_append.mpr ⟨h.ne,List.pairwise_singleton _ _,fun a ha b hb e=>?_⟩,fun t ht=>?_,fun t ht=>?_⟩
 ·rw [List.mem_singleton.mp hb] at e
  exact h1.2 (List.mem_map.mpr ⟨a,ha,e⟩)
 ·rcases List.mem_append.mp ht with ht | ht
  ·exact h.low t ht
  ·rw [List.mem_singleton.mp ht]; exact h1.1
 ·rcases List.mem_append.mp ht with ht | ht
  ·exact h.vals t ht
  ·rw [List.mem_singleton.mp ht]; exact hv
theorem fY {us:Ts} (h:Pok us):Ok (bt [] us)∧sW (bt [] us)∧(bt [] us).Perm us:=by
 obtain ⟨h1,h2⟩:=qv us [] List.Pairwise.nil (fun _ _ t ht=>by cases ht) h.ne
 have h2:(bt [] us).Perm us:=h2
 exact ⟨⟨h1,fun t ht=>h.low t (h2.subset ht)⟩,fun t ht=>h.vals t (h2.subset ht),h2⟩
theorem lN {us:Ts} (h:Pok us):us.length≤256:=by
 have:=fY h
 rw [← this.2.2.length_eq]; exact qh this.1
theorem mO {us vs:Ts} {w:List Nat} (h:Pok us) (e:fo us w=some vs):Pok vs:=by
 unfold fo at e
 cases q1:qf (ak 61 w) with
 | none=>rw [q1] at e; cases e
 | some p=>
  rw [q1,Option.bind_some] at e
  cases q2:num p.1 with
  | none=>rw [q2] at e; cases e
  | some n=>
   rw [q2,Option.bind_some] at e
   cases q3:num p.2 with
   | none=>rw [q3] at e; cases e
   | some v=>
    rw [q3,Option.bind_some] at e
    by_cases q4:(0≤n∧n≤255)∧n ∉ us.map (·.1)
    ·rw [if_pos q4] at e; cases e; exact mP h q4 (jF q3).1
    ·rw [if_neg q4] at e; cases e
theorem uX {us vs:Ts} {r:List Nat} (h:Pok us) (e:rL us r=some vs):Pok vs:=eM (fun _ _ _ h e=>mO h e) _ us vs h e
theorem lO {rs:List (List Nat)} {vs:Ts} (e:iM rL [] rs=some vs):Pok vs:=eM (fun _ _ _ h e=>uX h e) rs [] vs qc e
theorem qr {T:List Nat} {b:Nat} {ts:Ts} (h:ce T=some (b,ts)):Stk b ts∧ci b ts=T:=by
 unfold ce at h
 by_cases q1:((ak 10 T).headD []).take 6=[98,111,117,110,100,32]
 ·rw [if_pos q1] at h
  cases q2:num (((ak 10 T).headD []).drop 6) with
  | none=>rw [q2] at h; cases h
  | some i=>
   rw [q2,Option.bind_some] at h
   by_cases q3:1≤i∧i≤64
   ·rw [if_pos q3] at h
    cases q4:iM rL [] (ak 10 T).tail with
    | none=>rw [q4] at h; cases h
    | some us=>
     rw [q4,Option.bind_some] at h
     by_cases q5:ci i.toNat (bt [] us)=T
     ·rw [if_pos q5] at h
      cases h
      have:=fY (lO q4)
      exact ⟨⟨by lia,by lia,this.1,this.2.1⟩,q5⟩
     ·rw [if_neg q5] at h; cases h
   ·rw [if_neg q3] at h; cases h
 ·rw [if_neg q1] at h; cases h
theorem pd {us:Ts} {t:Int×Int} (h:(0≤t.1∧t.1≤255)∧t.2.natAbs < 10 ^ 60) (hn:t.1 ∉ us.map (·.1)):fo us (bV t)=some (us++[t]):=by
 have e:ak 61 (bV t)=[ao t.1,ao t.2]:=by rw [← iz t]; exact eF (fun e=>nomatch e) (iK t)
 unfold fo
 rw [e]
 show (num (ao t.1)).bind _=_
 have a1:t.1.natAbs < 10 ^ 60:=Nat.lt_of_le_of_lt (by lia:t.1.natAbs≤255) (by decide)
 rw [fq a1,Option.bind_some]
 show (num (ao t.2)).bind _=_
 rw [fq h.2,Option.bind_some,if_pos ⟨h.1,hn⟩]
theorem vN {us xs:Ts} {t:Int×Int} (h:(us++t::xs).Pairwise fun a b=>a.1≠b.1):t.1 ∉ us.map (·.1):=fun q=>by
 obtain ⟨a,ha,e⟩:=List.mem_map.mp q
 exact (List.pairwise_append.mp h).2.2 a ha t List.mem_cons_self e
theorem ix: ∀ (xs us:Ts),(∀ t∈xs,(0≤t.1∧t.1≤255)∧t.2.natAbs < 10 ^ 60)→(us++xs).Pairwise (fun a b=>a.1≠b.1)→iM fo us (xs.map bV)=some (us++xs)
 | [],us,_,_=>by rw [List.append_nil]; rfl
 | t::xs,us,h,hn=>by
  show (fo us (bV t)).bind _=_
  have e:us++t::xs=us++[t]++xs:=by rw [List.append_assoc]; rfl
  rw [pd (h t List.mem_cons_self) (vN hn),Option.bind_some,e]
  exact ix xs (us++[t]) (fun u hu=>h u (List.mem_cons_of_mem _ hu)) (e▸hn)
theorem kr: ∀ (xs:List Rm) (us:Ts),(∀ x∈xs,(∀ c∈x.1,c=48∨c=49)∧∀ t∈x.2,(0≤t.1∧t.1≤255)∧t.2.natAbs < 10 ^ 60)→(us++xs.flatMap (·.2)).Pairwise (fun a b=>a.1≠b.1)→iM rL us (xs.map ij)=some (us++xs.flatMap (·.2))
 | [],us,_,_=>by rw [List.flatMap_nil,List.append_nil]; rfl
 | x::xs,us,h,hn=>by
  have hx:=h x List.mem_cons_self
  have e1:ak 32 (ij x)=eE x:=by rw [← eG x]; exact eF (fun e=>nomatch e) (iy hx.1)
  have e2:us++(x::xs).flatMap (·.2)=us++x.2++xs.flatMap (·.2):=by rw [List.flatMap_cons,List.append_assoc]
  rw [e2] at hn ⊢
  show (rL us (ij x)).bind _=_
  rw [rL,e1]
  show (iM fo us (x.2.map bV)).bind _=_
  rw [ix x.2 us hx.2 (List.pairwise_append.mp hn).1,Option.bind_some]
  exact kr xs (us++x.2) (fun y hy=>h y (List.mem_cons_of_mem _ hy)) hn
theorem qp {b:Nat} {ts:Ts} (g:Stk b ts):ce (ci b ts)=some (b,ts):=by
 have e:ak 10 (ci b ts)=dw b ts:=eF (fun e=>nomatch e) (gG b ts)
 unfold ce
 have b64:=g.b64
 have h0:(ak 10 (ci b ts)).headD []=bZ b:=by rw [e]; rfl
 have h1:(ak 10 (ci b ts)).tail=(aw b ts).map ij:=by rw [e]; rfl
 rw [h0,h1,if_pos (iX b),iY,fq (Nat.lt_of_le_of_lt b64 (by decide)),Option.bind_some,if_pos ⟨Int.ofNat_le.mpr g.b1,Int.ofNat_le.mpr b64⟩]
 rw [kr (aw b ts) [] (fun x hx=>⟨(g.room hx).2.2.2,(g.room hx).2.2.1⟩) (qK g.ok.up),Option.bind_some,List.nil_append,iQ g.ok.up,Int.toNat_natCast,if_pos rfl]
theorem vU {T:List Nat} (h:ce T=none):Bad T:=fun b us g e=>by
 rw [← e,qp g] at h; cases h
end
noncomputable section
open PySem
noncomputable def fN:Ss:=
 (.cons (.asg "_law_figures" (.slc (.var "_law_word") (.blt .int (.cons (.cmp .Eq (.slc (.var "_law_word") .omit (.int 1)) (.str [45])) .nil)) .omit))
 (.cons (.ite (.or (.cons (.cmp .Eq (.var "_law_figures") (.str [])) (.cons (.cmp .Gt (.blt .len (.cons (.var "_law_figures") .nil)) (.int 60)) (.cons (.and (.cons (.cmp .Eq (.idx (.var "_law_figures") (.int 0)) (.str [48])) (.cons (.cmp .NotEq (.var "_law_word") (.str [48])) .nil))) .nil)))) (.cons (.ret .none)
 .nil) .nil)
 (.cons (.for_ "_law_sign" (.var "_law_figures") (.cons (.ite (.cmp .NotIn (.var "_law_sign") (.str [48,49,50,51,52,53,54,55,56,57])) (.cons (.ret .none)
 .nil) .nil)
 .nil))
 (.cons (.ret (.blt .int (.cons (.var "_law_word") .nil)))
 .nil))))
noncomputable def je:Ss:=
 (.cons (.asg "_law_rows" (.mth .split (.var "_law_text_here") (.cons (.str [10]) .nil)))
 (.cons (.asg "_law_bound" (.call "_law_number" (.cons (.slc (.idx (.var "_law_rows") (.int 0)) (.int 6) .omit) .nil)))
 (.cons (.ite (.or (.cons (.cmp .NotEq (.slc (.idx (.var "_law_rows") (.int 0)) .omit (.int 6)) (.str [98,111,117,110,100,32])) (.cons (.cmp .Is (.var "_law_bound") .none) (.cons (.cmp .Lt (.var "_law_bound") (.int 1)) (.cons (.cmp .Gt (.var "_law_bound") (.int 64)) .nil))))) (.cons (.ret .none)
 .nil) .nil)
 (.cons (.asg "_law_plain" (.list .nil))
 (.cons (.for_ "_law_row" (.slc (.var "_law_rows") (.int 1) .omit) (.cons (.for_ "_law_word" (.slc (.mth .split (.var "_law_row") (.cons (.str [32]) .nil)) (.int 1) .omit) (.cons (.asg "_law_pair" (.mth .split (.var "_law_word") (.cons (.str [61]) .nil)))
 (.cons (.ite (.or (.cons (.cmp .NotEq (.blt .len (.cons (.var "_law_pair") .nil)) (.int 2)) (.cons (.cmp .Is (.call "_law_number" (.cons (.idx (.var "_law_pair") (.int 0)) .nil)) .none) (.cons (.cmp .Is (.call "_law_number" (.cons (.idx (.var "_law_pair") (.int 1)) .nil)) .none) .nil)))) (.cons (.ret .none)
 .nil) .nil)
 (.cons (.ite (.or (.cons (.cmp .Lt (.blt .int (.cons (.idx (.var "_law_pair") (.int 0)) .nil)) (.int 0)) (.cons (.cmp .Gt (.blt .int (.cons (.idx (.var "_law_pair") (.int 0)) .nil)) (.int 255)) (.cons (.cmp .In (.blt .int (.cons (.idx (.var "_law_pair") (.int 0)) .nil)) (.compX (.idx (.var "_law_one") (.int 0)) "_law_one" (.var "_law_plain"))) .nil)))) (.cons (.ret .none)
 .nil) .nil)
 (.cons (.ex (.mth .append (.var "_law_plain") (.cons (.tup (.cons (.blt .int (.cons (.idx (.var "_law_pair") (.int 0)) .nil)) (.cons (.blt .int (.cons (.idx (.var "_law_pair") (.int 1)) .nil)) .nil))) .nil)))
 .nil)))))
 .nil))
 (.cons (.ite (.or (.cons (.cmp .Gt (.blt .len (.cons (.var "_law_plain") .nil)) (.int 256)) (.cons (.cmp .NotEq (.call "_law_text" (.cons (.var "_law_plain") (.cons (.var "_law_bound") .nil))) (.var "_law_text_here")) .nil))) (.cons (.ret .none)
 .nil) .nil)
 (.cons (.ret (.tup (.cons (.var "_law_bound") (.cons (.blt .sorted (.cons (.var "_law_plain") .nil)) .nil))))
 .nil)))))))
noncomputable def Ca:Option Int→V
 | none=>.none
 | some i=>.int i
noncomputable def oA:Option (Nat×Ts)→V
 | none=>.none
 | some p=>.tup [.int p.1,.lst (p.2.map pr)]
section
variable {C:Cx} {k:Nat} {H:List HO}
theorem mZ (n:Nat) (o:Option (Nat×Ts)):low n (oA o):=by
 cases o with
 | none=>trivial
 | some p=>exact ⟨trivial,dl _ _,trivial⟩
theorem zf (F:bO C "_law_number" ["_law_word"] fN) (w:List Nat):Calls C (k+1) "_law_number" [.str w] H (.ok (Ca (num w))) H:=by
 refine aq F rfl (aA (cC (aV (aa rfl) rfl (aB (aH (ae (bw (aa rfl) rfl ac (.str _)) ag (.eq (.self _) (.self _) rfl rfl) (lQ w))) (.int _)) (.str _)) (v':=.str (cm w)) (congrArg V.str ?_)) ?_)
 ·cases q:qk w with
  | true=>show slice w (bM w.length (some ((1:Nat):Int))) (bQ w.length none)=_; rw [ck,cm,q]; rfl
  | false=>show slice w (bM w.length (some ((0:Nat):Int))) (bQ w.length none)=_; rw [ck,cm,q]; rfl
 by_cases c1:cm w=[]
 ·have e:num w=none:=by unfold num; rw [if_neg fun q=>q.1 c1]
  rw [e]
  exact bl (cT (mR (ae (aa rfl) ag (.eq (.self _) (.self _) rfl rfl) (by rw [bx,c1]; rfl)))) (aP aO (aF (aJ rfl trivial)))
 ·have n1:eqB (.str (cm w)) (.str [])=false:=by rw [bx]; exact decide_eq_false c1
  by_cases c2:(cm w).length≤60
  ·have n2:decide ((60:Int) < ((cm w).length:Nat))=false:=decide_eq_false (by lia)
   obtain ⟨x,r,ex⟩: ∃ x r,cm w=x::r:=by
    cases e:cm w with
    | nil=>exact absurd e c1
    | cons x r=>exact ⟨x,r,rfl⟩
   have i0: ∀ H:List HO,Idx H (.str (cm w)) (.int 0) (.str [x]):=fun H=>.str (by decide) (by rw [ex]; rfl)
   have n3:eqB (.str [x]) (.str [48])=decide ((cm w).take 1=[48]):=by rw [bx,ex]; rfl
   by_cases c3:(cm w).take 1=[48]∧w≠[48]
   ·have e:num w=none:=by unfold num; rw [if_neg fun q=>q.2.2.1 c3]
    rw [e]
    exact bl (cT (dx (ae (aa rfl) ag (.eq (.self _) (.self _) rfl rfl) n1) (dx (ae (aB (aH (aa rfl)) (.len (.str _))) ac (.gt _ _) n2)
     (mR (kT (iv (ae (am (aa rfl) ac (i0 _)) ag (.eq (.self _) (.self _) rfl rfl) (n3.trans (decide_eq_true c3.1))) (iv (ae (aa rfl) ag (.ne (.self _) (.self _) rfl rfl) (by rw [bx,decide_eq_false c3.2]; rfl)) jV))))))) (aP aO (aF (aJ rfl trivial)))
   ·refine aR (st₁:=(St.mk (dy ["_law_word"] [.str w]) H).set "_law_figures" (.str (cm w))) (cT (dx (ae (aa rfl) ag (.eq (.self _) (.self _) rfl rfl) n1) (dx (ae (aB (aH (aa rfl)) (.len (.str _))) ac (.gt _ _) n2) (dx (kT ?_) gM)))) ?_
    ·by_cases c5:(cm w).take 1=[48]
     ·have c6:w=[48]:=Classical.byContradiction fun z=>c3 ⟨c5,z⟩
      exact iv (ae (am (aa rfl) ac (i0 _)) ag (.eq (.self _) (.self _) rfl rfl) (n3.trans (decide_eq_true c5))) (zm (ae (aa rfl) ag (.ne (.self _) (.self _) rfl rfl) (by rw [bx,decide_eq_true c6]; rfl)))
     ·exact zm (ae (am (aa rfl) ac (i0 _)) ag (.eq (.self _) (.self _) rfl rfl) (n3.trans (decide_eq_false c5)))
    ·refine mH (fun l st=>st.H=H∧st.s "_law_word" =some (.str w)∧oJ ((cm w).take l)) (fun u st=>u=.none∧st.H=H∧¬ oJ (cm w)) (aa rfl) (.str _) ⟨rfl,rfl,fun c hc=>by rw [List.take_zero] at hc; cases hc⟩ ?_ ?_ ?_
     ·rintro l v ⟨s,H'⟩ hw ⟨q1,q2,q3⟩ Q' hQ hR
      have q1:H'=_:=q1
      subst q1
      obtain ⟨hl,rfl⟩:=cR hw
      by_cases q5:48≤(cm w)[l]∧(cm w)[l]≤57
      ·refine aR (ae (aa rfl) ag (.nin (.sign _ _)) (by rw [decide_eq_true ((gV _).mpr q5)]; rfl)) (bC (hQ _ ⟨rfl,by exact q2,fun c hc=>?_⟩).1)
       rw [List.take_succ_eq_append_getElem hl] at hc
       rcases List.mem_append.mp hc with hc | hc
       ·exact q3 c hc
       ·rw [List.mem_singleton.mp hc]; exact q5
      ·exact bl (ae (aa rfl) ag (.nin (.sign _ _)) (by rw [decide_eq_false (fun z=>q5 ((gV _).mp z))]; rfl)) (aP aO (aF (hR _ _ ⟨rfl,rfl,fun z=>q5 (z _ (List.getElem_mem hl))⟩)))
     ·rintro u st ⟨rfl,q1,q2⟩
      have e:num w=none:=by unfold num; rw [if_neg fun q=>q2 q.2.2.2]
      rw [e]; exact aJ q1 trivial
     ·rintro ⟨s,H'⟩ ⟨q1,q2,q3⟩
      have q1:H'=_:=q1
      subst q1
      rw [List.length_map,List.take_length] at q3
      have e:num w=some (oP w):=by unfold num; rw [if_pos ⟨c1,c2,c3,q3⟩]
      rw [e]; exact aP (aB (aH (aa (by exact q2))) (jh q3 c1 (Nat.le_trans c2 (by decide)))) (aJ rfl trivial)
  ·have e:num w=none:=by unfold num; rw [if_neg fun q=>c2 q.2.1]
   rw [e]
   exact bl (cT (dx (ae (aa rfl) ag (.eq (.self _) (.self _) rfl rfl) n1) (mR (ae (aB (aH (aa rfl)) (.len (.str _))) ac (.gt _ _) (decide_eq_true (by lia)))))) (aP aO (aF (aJ rfl trivial)))
end
end
noncomputable section
open PySem
section
variable {C:Cx} {k:Nat} {H:List HO}
theorem ww (F:bO C "_law_read" ["_law_text_here"] je) {T:List Nat} (hT:T.length≤16000000)
  (Gl: ∀ (H:List HO) (w:List Nat),Calls C k "_law_number" [.str w] H (.ok (Ca (num w))) H)
  (Gt: ∀ (H:List HO) (b:Nat) (ts us:Ts) (v:V),Stk b ts→fk H v (us.map pr)→ts.Perm us→Calls C k "_law_text" [v,.int b] H (.ok (.str (ci b ts))) H):
  Calls C (k+1) "_law_read" [.str T] H (.ok (oA (ce T))) H:=by
 refine aq F rfl (aA (cU (aa rfl) (.split _) (aH ag) (cw hT) .lst) ?_)
 have ln:=dz 10 T
 have L:ce T=ce T:=rfl
 conv at L=>rhs; unfold ce
 rw [bE 10 T] at ln ⊢
 generalize ce T=due at L ⊢
 generalize (ak 10 T).headD []=r0 at ln L ⊢
 generalize (ak 10 T).tail=rs at ln L ⊢
 have i0: ∀ H:List HO,Idx H (.lst ((r0::rs).map .str)) (.int 0) (.str r0):=fun H=>.seq (.lst _) (by decide) rfl
 have lz:low H.length (oA due):=mZ _ _
 have fin0: ∀ st:St,st.H=H→due=none→ku (.ret .none)=oA due∧low H.length (oA due)∧st.H.take H.length=H:=fun st h1 h2=>⟨by rw [h2]; rfl,lz,by rw [h1,List.take_length]⟩
 refine aA (ai (aH (cC (aV (am (aa rfl) ac (i0 _)) rfl ac (.str _)) (v':=.str (r0.drop 6)) (by rw [show ((6:Int))=((6:Nat):Int) from rfl,ck]))) (Gl _ _)) ?_
 by_cases hb:r0.take 6=[98,111,117,110,100,32]
 ·rw [if_pos hb] at L
  have c0: ∀ st:St,st.s "_law_rows" =some (.lst ((r0::rs).map .str))→Ev (Calls C k) C.glo (.cmp .NotEq (.slc (.idx (.var "_law_rows") (.int 0)) .omit (.int 6)) (.str [98,111,117,110,100,32])) st (.bool false) st:=fun st e=>
   ae (bw (am (aa e) ac (i0 _)) rfl ac (.str _)) ag (.ne (.self _) (.self _) rfl rfl) (by rw [show ((6:Int))=((6:Nat):Int) from rfl,dX,hb,gY]; rfl)
  cases hn:num (r0.drop 6) with
  | none=>
   rw [hn] at L
   exact bl (cT (dx (c0 _ rfl) (mR (cM (aa rfl) aO (.is .nn))))) (aP aO (aF (fin0 _ rfl L)))
  | some bi=>
  rw [hn,Option.bind_some] at L
  have cn: ∀ st:St,st.s "_law_bound" =some (.int bi)→Ev (Calls C k) C.glo (.cmp .Is (.var "_law_bound") .none) st (.bool false) st:=fun st e=>cM (aa e) aO (.is (.xn fun z=>nomatch z))
  by_cases h1:bi < 1
  ·rw [if_neg (fun z=>by lia)] at L
   exact bl (cT (dx (c0 _ rfl) (dx (cn _ rfl) (mR (ae (aa rfl) ac (.lt _ _) (decide_eq_true h1)))))) (aP aO (aF (fin0 _ rfl L)))
  ·by_cases h2:64 < bi
   ·rw [if_neg (fun z=>by lia)] at L
    exact bl (cT (dx (c0 _ rfl) (dx (cn _ rfl) (dx (ae (aa rfl) ac (.lt _ _) (decide_eq_false h1)) (mR (ae (aa rfl) ac (.gt _ _) (decide_eq_true h2))))))) (aP aO (aF (fin0 _ rfl L)))
   ·have hb1:1≤bi∧bi≤64:=by exact ⟨(Int.not_lt.mp h1),(Int.not_lt.mp h2)⟩
    rw [if_pos hb1] at L
    obtain ⟨b,rfl⟩: ∃ b:Nat,bi=b:=⟨bi.toNat,(Int.toNat_of_nonneg (Int.le_trans (by decide) hb1.1)).symm⟩
    have b1:1≤b:=Int.ofNat_le.mp hb1.1
    have b2:b≤64:=Int.ofNat_le.mp hb1.2
    rw [Int.toNat_natCast] at L
    refine aR (cT (dx (c0 _ rfl) (dx (cn _ rfl) (dx (ae (aa rfl) ac (.lt _ _) (decide_eq_false h1)) (dx (ae (aa rfl) ac (.gt _ _) (decide_eq_false h2)) gM))))) ?_
    refine aA (bg eA .loc) ?_
    have tk: ∀ us:Ts,(H++[HO.list (us.map pr)]).take H.length=H:=fun us=>List.take_left ..
    have fin1: ∀ (st:St) (us:Ts),st.H=H++[HO.list (us.map pr)]→due=none→V.none=oA due∧low H.length (oA due)∧st.H.take H.length=H:=fun st us h1 h2=>⟨by rw [h2]; rfl,lz,by rw [h1]; exact tk us⟩
    refine mH (fun l st=>∃ us,st.H=H++[HO.list (us.map pr)]∧iM rL [] (rs.take l)=some us∧st.s "_law_plain" =some (.loc H.length)∧st.s "_law_text_here" =some (.str T)∧st.s "_law_bound" =some (.int b))
     (fun u st=>u=oA due∧low H.length (oA due)∧st.H.take H.length=H) (aV (aa rfl) rfl ac (.seq (.lst _) .lst)) (items:=rs.map .str) (by rw [sQ]; exact .lst _) ⟨[],rfl,rfl,rfl,rfl,rfl⟩ ?_ (fun _ _ h=>h) ?_
    ·rintro l w ⟨s,H'⟩ hw ⟨us,e1,e2,e3,e4,e5⟩ Q' hQ hR
     have e1:H'=_:=e1
     subst e1
     obtain ⟨hl,rfl⟩:=cR hw
     have rl:=ln _ (List.mem_cons_of_mem _ (List.getElem_mem hl))
     have nx:=gN hl e2
     have no:=kD hl e2
     have pu:=lO e2
     generalize rs[l]=row at rl nx no
     have wn:=dz 32 row
     unfold rL at nx no
     rw [bE 32 row] at wn
     have sp:=cw (c:=32) (Nat.le_trans rl hT)
     rw [bE 32 row] at sp
     generalize (ak 32 row).headD []=w0 at wn sp
     generalize (ak 32 row).tail=ws at wn nx no sp
     refine mH (fun l st=>∃ vs,st.H=H++[HO.list (vs.map pr)]∧iM fo us (ws.take l)=some vs∧st.s "_law_plain" =some (.loc H.length)∧st.s "_law_text_here" =some (.str T)∧st.s "_law_bound" =some (.int b))
      (fun u st=>u=oA due∧low H.length (oA due)∧st.H.take H.length=H) (aV (cU (aa rfl) (.split _) (aH ag) sp .lst) rfl ac (.seq (.lst _) .lst)) (items:=ws.map .str) (by rw [sQ]; exact .lst _) ⟨us,rfl,rfl,e3,e4,e5⟩ ?_ (fun u st h=>hR u st h) ?_
     ·rintro m w ⟨s,H'⟩ hw ⟨vs,q1,q2,q3,q4,q5⟩ Q'' hQ' hR'
      have q1:H'=_:=q1
      subst q1
      obtain ⟨hm,rfl⟩:=cR hw
      have wl:=wn _ (List.mem_cons_of_mem _ (List.getElem_mem hm))
      have nx':=gN hm q2
      have no':=kD hm q2
      have pv:Pok vs:=eM (fun _ _ _ h e=>mO h e) _ us vs pu q2
      generalize ws[m]=word at wl nx' no'
      have dn:fo vs word=none→due=none:=fun z=>by
       have:=no (no' z)
       unfold rL at L
       rw [L,this]; rfl
      have out: ∀ st:St,st.H=H++[HO.list (vs.map pr)]→fo vs word=none→Q'' (.ret .none) st:=fun st h1 h2=>hR' _ _ (fin1 st vs h1 (dn h2))
      refine aA (cU (aa rfl) (.split _) (aH ag) (cw (Nat.le_trans wl (Nat.le_trans rl hT))) .lst) ?_
      unfold fo at nx' out
      by_cases h3:(ak 61 word).length=2
      ·obtain ⟨a,c,hp⟩: ∃ a c,ak 61 word=[a,c]:=by
        match ak 61 word,h3 with
        | [a,c],_=>exact ⟨a,c,rfl⟩
       rw [hp] at nx' out ⊢
       have nx':iM fo us (ws.take (m+1))=(num a).bind fun n=>(num c).bind fun v=>if (0≤n∧n≤255)∧n ∉ vs.map (·.1) then some (vs++[(n,v)]) else none:=nx'
       have out: ∀ st:St,st.H=H++[HO.list (vs.map pr)]→((num a).bind fun n=>(num c).bind fun v=>if (0≤n∧n≤255)∧n ∉ vs.map (·.1) then some (vs++[(n,v)]) else none)=none→Q'' (.ret .none) st:=out
       have ia: ∀ H:List HO,Idx H (.lst ([a,c].map .str)) (.int 0) (.str a):=fun H=>.seq (.lst _) (by decide) rfl
       have ic: ∀ H:List HO,Idx H (.lst ([a,c].map .str)) (.int 1) (.str c):=fun H=>.seq (.lst _) (by decide) rfl
       have k0: ∀ st:St,st.s "_law_pair" =some (.lst ([a,c].map .str))→Ev (Calls C k) C.glo (.cmp .NotEq (.blt .len (.cons (.var "_law_pair") .nil)) (.int 2)) st (.bool false) st:=fun st e=>ae (aB (aH (aa e)) (.len (.seq (.lst _)))) ac df lR
       cases h4:num a with
       | none=>exact bl (cT (dx (k0 _ rfl) (mR (cM (cC (ai (aH (am (aa rfl) ac (ia _))) (Gl _ a)) (v':=.none) (by rw [h4]; rfl)) aO (.is .nn))))) (aP aO (aF (out _ rfl (by rw [h4]; rfl))))
       | some n=>
       have k1: ∀ st:St,st.s "_law_pair" =some (.lst ([a,c].map .str))→Ev (Calls C k) C.glo (.cmp .Is (.call "_law_number" (.cons (.idx (.var "_law_pair") (.int 0)) .nil)) .none) st (.bool false) st:=fun st e=>cM (cC (ai (aH (am (aa e) ac (ia _))) (Gl _ a)) (v':=.int n) (by rw [h4]; rfl)) aO (.is (.xn fun z=>nomatch z))
       rw [h4,Option.bind_some] at nx' out
       cases h5:num c with
       | none=>exact bl (cT (dx (k0 _ rfl) (dx (k1 _ rfl) (mR (cM (cC (ai (aH (am (aa rfl) ac (ic _))) (Gl _ c)) (v':=.none) (by rw [h5]; rfl)) aO (.is .nn)))))) (aP aO (aF (out _ rfl (by rw [h5]; rfl))))
       | some v=>
       rw [h5,Option.bind_some] at nx' out
       refine aR (cT (dx (k0 _ rfl) (dx (k1 _ rfl) (dx (cM (cC (ai (aH (am (aa rfl) ac (ic _))) (Gl _ c)) (v':=.int v) (by rw [h5]; rfl)) aO (.is (.xn fun z=>nomatch z))) gM)))) ?_
       have bn:=(jF h4).2
       have bv:=(jF h5).2
       have en: ∀ st:St,st.s "_law_pair" =some (.lst ([a,c].map .str))→Ev (Calls C k) C.glo (.blt .int (.cons (.idx (.var "_law_pair") (.int 0)) .nil)) st (.int n) st:=fun st e=>aB (aH (am (aa e) ac (ia _))) (bn _)
       by_cases h6:n < 0
       ·exact bl (cT (mR (ae (en _ rfl) ac (.lt _ _) (decide_eq_true h6)))) (aP aO (aF (out _ rfl (if_neg fun z=>by lia))))
       ·by_cases h7:255 < n
        ·exact bl (cT (dx (ae (en _ rfl) ac (.lt _ _) (decide_eq_false h6)) (mR (ae (en _ rfl) ac (.gt _ _) (decide_eq_true h7))))) (aP aO (aF (out _ rfl (if_neg fun z=>by lia))))
        ·have vw:fk (H++[HO.list (vs.map pr)]) (.lst (vs.map fun t=>V.int t.1)) ((vs.map (·.1)).map .int):=by rw [List.map_map]; exact .lst _
         by_cases h8:n∈vs.map (·.1)
         ·exact bl (cT (dx (ae (en _ rfl) ac (.lt _ _) (decide_eq_false h6)) (dx (ae (en _ rfl) ac (.gt _ _) (decide_eq_false h7)) (mR (ae (en _ rfl) (kS (g:=pr) (q:=fun t=>V.int t.1) (rs:=vs) (aa (by exact q3)) bF (fun t _=>am (aa rfl) ac cz)) (.inn (.int vw)) (decide_eq_true h8)))))) (aP aO (aF (out _ rfl (if_neg fun z=>z.2 h8))))
         ·rw [if_pos ⟨⟨by exact (Int.not_lt.mp h6),by exact (Int.not_lt.mp h7)⟩,h8⟩] at nx'
          refine aR (cT (dx (ae (en _ rfl) ac (.lt _ _) (decide_eq_false h6)) (dx (ae (en _ rfl) ac (.gt _ _) (decide_eq_false h7)) (dx (ae (en _ rfl) (kS (g:=pr) (q:=fun t=>V.int t.1) (rs:=vs) (aa (by exact q3)) bF (fun t _=>am (aa rfl) ac cz)) (.inn (.int vw)) (decide_eq_false h8)) gM)))) ?_
          refine rI (dc (aa (by exact q3)) bF (aH (cY (cL (en _ rfl) (aB (aH (am (aa rfl) ac (ic _))) (bv _))))) bF ?_) (bC (hQ' _ ⟨vs++[(n,v)],?_,nx',by exact q3,by exact q4,by exact q5⟩).1)
          ·rw [List.length_map]; exact Nat.lt_of_le_of_lt (lN pv) (by decide)
          ·show (H++[_]).set H.length _=_
           rw [io,List.map_append]; rfl
      ·exact bl (cT (mR (ae (aB (aH (aa rfl)) (.len (.seq (.lst _)))) ac df (by rw [jP,List.length_map,decide_eq_false (fun z:(((ak 61 word).length:Nat):Int)=2=>h3 (Int.ofNat.inj z))]; rfl)))) (aP aO (aF (out _ rfl (by rw [qe h3]; rfl))))
     ·rintro ⟨s,H'⟩ ⟨vs,q1,q2,q3,q4,q5⟩
      rw [List.length_map,List.take_length] at q2
      exact bC (hQ _ ⟨vs,q1,nx.trans q2,q3,q4,q5⟩).1
    ·rintro ⟨s,H'⟩ ⟨us,e1,e2,e3,e4,e5⟩
     have e1:H'=_:=e1
     subst e1
     rw [List.length_map,List.take_length] at e2
     have pu:=lO e2
     obtain ⟨j1,j2,j3⟩:=fY pu
     have ul:=lN pu
     have g:Stk b (bt [] us):=⟨b1,b2,j1,j2⟩
     rw [e2,Option.bind_some] at L
     have cl: ∀ st:St,st.H=H++[HO.list (us.map pr)]→st.s "_law_plain" =some (.loc H.length)→Ev (Calls C k) C.glo (.cmp .Gt (.blt .len (.cons (.var "_law_plain") .nil)) (.int 256)) st (.bool false) st:=fun st h e=>ae (aB (aH (aa e)) (.len (.seq (.loc (by rw [h]; exact bF))))) ac (.gt _ _) (decide_eq_false (by rw [List.length_map]; lia))
     have ct:=fun st:St=>Gt (H++[HO.list (us.map pr)]) b (bt [] us) us (.loc H.length) g (.loc bF) j3
     by_cases h9:ci b (bt [] us)=T
     ·rw [if_pos h9] at L
      rw [L]
      refine aR (cT (dx (cl _ rfl (by exact e3)) (dx (ae (ai (cL (aa (by exact e3)) (aa (by exact e5))) (Gt (H++[HO.list (us.map pr)]) b (bt [] us) us (.loc H.length) g (.loc bF) j3)) (aa (by exact e4)) (.ne (.self _) (.self _) rfl rfl) (by rw [bx,decide_eq_true h9]; rfl)) gM))) ?_
      refine aP (cY (cL (aa (by exact e5)) (fw (aH (aa (by exact e3))) (.sorted (ys:=(bt [] us).map pr) (.loc bF) (.duos (duos _)) ?_ (j3.map pr) (kf j1.up)) .lst))) ⟨rfl,mZ _ (some (b,bt [] us)),tk us⟩
      rw [List.length_map]; exact Nat.le_trans ul (by decide)
     ·rw [if_neg h9] at L
      exact bl (cT (dx (cl _ rfl (by exact e3)) (mR (ae (ai (cL (aa (by exact e3)) (aa (by exact e5))) (Gt (H++[HO.list (us.map pr)]) b (bt [] us) us (.loc H.length) g (.loc bF) j3)) (aa (by exact e4)) (.ne (.self _) (.self _) rfl rfl) (by rw [bx,decide_eq_false h9]; rfl))))) (aP aO (aF (fin1 _ us rfl L)))
 ·rw [if_neg hb] at L
  exact bl (cT (mR (ae (bw (am (aa rfl) ac (i0 _)) rfl ac (.str _)) ag (.ne (.self _) (.self _) rfl rfl) (by rw [show ((6:Int))=((6:Nat):Int) from rfl,dX,bx,decide_eq_false hb]; rfl)))) (aP aO (aF (fin0 _ rfl L)))
end
end
noncomputable section
open PySem
noncomputable def kY:Ss:=
 (.cons (.asg "_law_some" (.list (.cons (.str []) (.cons (.str [98,111,117,110,100,32,49]) (.cons (.str [98,111,117,110,100,32,49,10]) (.cons (.str [98,111,117,110,100,32,49,10,58]) (.cons (.str [98,111,117,110,100,32,54,52,10,58,32,48,61,48,32,50,53,53,61,45,49]) (.cons (.str [98,111,117,110,100,32,49,10,58,10]) (.cons (.str [32,98,111,117,110,100,32,49,10,58]) .nil)))))))))
 (.cons (.asg "_law_some" (.bin .Add (.var "_law_some") (.list (.cons (.str [98,111,117,110,100,32,49,10,58,32,48,61,48,32,48,61,48]) (.cons (.str [98,111,117,110,100,32,50,10,58,32,49,61,50,32,48,61,51]) (.cons (.str [98,111,117,110,100,32,54,53,10,58]) (.cons (.str [98,111,117,110,100,32,48,10,58]) (.cons (.str [98,111,117,110,100,32,48,49,10,58]) (.cons (.str [66,111,117,110,100,32,49,10,58]) .nil)))))))))
 (.cons (.asg "_law_some" (.bin .Add (.var "_law_some") (.list (.cons (.bin .Add (.str [98,111,117,110,100,32,51,10,58,32,55,61]) (.bin .Mult (.str [57]) (.int 60))) (.cons (.bin .Add (.str [98,111,117,110,100,32,51,10,58,32,55,61]) (.bin .Mult (.str [57]) (.int 61))) (.cons (.str [98,111,117,110,100,32,51,10,58,32,55,61,45,48]) (.cons (.str [98,111,117,110,100,32,51,10,58,32,55,61,43,49]) .nil)))))))
 (.cons (.ex (.mth .append (.var "_law_some") (.cons (.bin .Add (.str [98,111,117,110,100,32,51,10,58,32,45]) (.str [48,61,53])) .nil)))
 (.cons (.ret (.idx (.var "_law_some") (.bin .Mod (.var "_law_cell") (.int 18))))
 .nil)))))
noncomputable def dP:Ss:=
 (.cons (.ite (.cmp .Eq (.bin .Mod (.var "_law_cell") (.int 8)) (.int 0)) (.cons (.ret (.bin .Add (.bin .Add (.slc (.var "_law_text_here") .omit (.var "_law_at")) (.var "_law_sign")) (.slc (.var "_law_text_here") (.var "_law_at") .omit)))
 .nil) .nil)
 (.cons (.ite (.cmp .Eq (.bin .Mod (.var "_law_cell") (.int 8)) (.int 1)) (.cons (.ret (.bin .Add (.bin .Add (.slc (.var "_law_text_here") .omit (.var "_law_at")) (.var "_law_sign")) (.slc (.var "_law_text_here") (.bin .Add (.var "_law_at") (.int 1)) .omit)))
 .nil) .nil)
 (.cons (.ite (.cmp .Eq (.bin .Mod (.var "_law_cell") (.int 8)) (.int 2)) (.cons (.ret (.bin .Add (.slc (.var "_law_text_here") .omit (.var "_law_at")) (.slc (.var "_law_text_here") (.bin .Add (.var "_law_at") (.int 1)) .omit)))
 .nil) .nil)
 (.cons (.ite (.cmp .Eq (.bin .Mod (.var "_law_cell") (.int 8)) (.int 3)) (.cons (.asg "_law_kept" (.idx (.var "_law_rows") (.var "_law_first")))
 (.cons (.asgSub (.var "_law_rows") (.var "_law_first") (.idx (.var "_law_rows") (.var "_law_second")))
 (.cons (.asgSub (.var "_law_rows") (.var "_law_second") (.var "_law_kept"))
 (.cons (.ret (.mth .join (.str [10]) (.cons (.var "_law_rows") .nil)))
 .nil)))) .nil)
 (.cons (.ite (.cmp .Eq (.bin .Mod (.var "_law_cell") (.int 8)) (.int 4)) (.cons (.ret (.mth .join (.str [10]) (.cons (.bin .Add (.bin .Add (.slc (.var "_law_rows") .omit (.var "_law_first")) (.slc (.var "_law_rows") (.var "_law_first") (.bin .Add (.var "_law_first") (.int 1)))) (.slc (.var "_law_rows") (.var "_law_first") .omit)) .nil)))
 .nil) .nil)
 (.cons (.ite (.cmp .Eq (.bin .Mod (.var "_law_cell") (.int 8)) (.int 5)) (.cons (.ret (.call "_law_odd" (.cons (.var "_law_other") .nil)))
 .nil) .nil)
 (.cons (.ite (.cmp .Eq (.bin .Mod (.var "_law_cell") (.int 8)) (.int 6)) (.cons (.asg "_law_figures" (.bin .Add (.idx (.list (.cons (.str []) (.cons (.str [45]) .nil))) (.bin .Mod (.bin .FloorDiv (.var "_law_other") (.int 4)) (.int 2))) (.bin .Mult (.str [57]) (.idx (.list (.cons (.int 60) (.cons (.int 61) (.cons (.int 61) (.cons (.int 59) .nil))))) (.bin .Mod (.var "_law_other") (.int 4))))))
 (.cons (.ret (.bin .Add (.bin .Add (.bin .Add (.str [98,111,117,110,100,32,51,10,58,32]) (.blt .str (.cons (.bin .Mod (.bin .FloorDiv (.var "_law_other") (.int 8)) (.int 256)) .nil))) (.str [61])) (.var "_law_figures")))
 .nil)) .nil)
 (.cons (.ret (.var "_law_text_here"))
 .nil))))))))
noncomputable def ds:Ss:=
 (.cons (.asg "_law_at" (.bin .Mod (.bin .FloorDiv (.var "_law_cell") (.int 8)) (.bin .Add (.blt .len (.cons (.var "_law_text_here") .nil)) (.int 1))))
 (.cons (.asg "_law_some" (.str [33,34,35,36,38,39,40,41,42,44,46,47,59,60,62,63,64,65,66,67,68,69,70,71,72,73,74,75,76,77,78,79,80,81,82,83,84,85,86,87,88,89,90,91,92,93,94,95,96,97,98,99,100,101,102,103,104,105,106,107,108,109,110,111,112,113,114,115,116,117,118,119,120,121,122,123,124,125,126,9]))
 (.cons (.asg "_law_sign" (.idx (.bin .Add (.str [48,49,50,51,52,53,54,55,56,57,61,45,58,32,10,98,100,43,120]) (.idx (.var "_law_some") (.bin .Mod (.bin .FloorDiv (.var "_law_other") (.int 20)) (.int 80)))) (.bin .Mod (.var "_law_other") (.int 20))))
 (.cons (.asg "_law_rows" (.mth .split (.var "_law_text_here") (.cons (.str [10]) .nil)))
 (.cons (.asg "_law_first" (.bin .Mod (.bin .FloorDiv (.var "_law_cell") (.int 8)) (.blt .len (.cons (.var "_law_rows") .nil))))
 (.cons (.asg "_law_second" (.bin .Mod (.var "_law_other") (.blt .len (.cons (.var "_law_rows") .nil))))
 dP))))))
noncomputable def hZ:Ss:=
 (.cons (.asg "_law_kinds" (.list (.cons (.isiC (.var "_law_e") "BadName") (.cons (.isiC (.var "_law_e") "BadBound") (.cons (.isiC (.var "_law_e") "NoThing") (.cons (.isiC (.var "_law_e") "NoStore") .nil))))))
 (.cons (.ret (.and (.cons (.isiV (.var "_law_e")) (.cons (.cmp .Eq (.var "_law_kinds") (.compX (.cmp .Eq (.var "_law_k") (.var "_law_which")) "_law_k" (.blt .range (.cons (.int 4) .nil)))) .nil))))
 .nil))
noncomputable def eX:Ss:=
 (.cons (.asg "_law_told" (.int 0))
 (.cons (.try_ (.cons (.ex (.call "read" (.cons (.var "_law_text_here") .nil)))
 .nil) "NoStore" none (.cons (.asg "_law_told" (.bin .Add (.var "_law_told") (.int 1)))
 .nil))
 (.cons (.try_ (.cons (.ex (.call "read" (.cons (.var "_law_text_here") .nil)))
 .nil) "RoomError" (some "_law_e") (.cons (.asg "_law_told" (.bin .Add (.var "_law_told") (.blt .int (.cons (.call "_law_alone" (.cons (.var "_law_e") (.cons (.int 3) .nil))) .nil))))
 .nil))
 (.cons (.ret (.cmp .Eq (.var "_law_told") (.int 2)))
 .nil))))
section
variable {Φ:Orc} {G:String→Option V} {st st₁:St} {a:E} {v:V} {c:String}
theorem jN {c':String} (h:Ev Φ G a st v st₁) (x:mq st₁.H v c'):Ev Φ G (.isiC a c) st (.bool (bp c c')) st₁:=fun _ X q=>h _ X ⟨c',x,q⟩
theorem wf {c':String} (h:Ev Φ G a st v st₁) (x:mq st₁.H v c'):Ev Φ G (.isiV a) st (.bool true) st₁:=fun _ X q=>h _ X ⟨c',x,q⟩
theorem md {n:Nat} {x:String} (h:st.s x=some v) (hl:low n v):(st.cut n).s x=some v:=by
 show (st.s x).bind _=_
 rw [h]; exact if_pos hl
noncomputable def DN (s₀:String→Option V) (n:Nat) (s:String→Option V):Prop:=∀ y v,y≠ "_law_told" →y≠ "_law_e" →s₀ y=some v→low n v→s y=some v
theorem pp {e:E} {w:Int} {ss:Ss} {s₀:String→Option V} {H:List HO} {Q:Flow→St→Prop} {X:String→St→Prop} (hz:az H)
  (hx: ∀ s,DN s₀ H.length s→EvX Φ G e ⟨s,H⟩ c ⟨s,H⟩) (ha:Φ "_law_alone" [.loc H.length,.int w] (H++[.inst c]) (.ok (.bool true)) (H++[.inst c]))
  (hr: ∀ s,s "_law_told" =some (.int 2)→wSs Φ G ss ⟨s,H⟩ Q X):
  wSs Φ G (.cons (.asg "_law_told" (.int 0)) (.cons (.try_ (.cons (.ex e) .nil) c none (.cons (.asg "_law_told" (.bin .Add (.var "_law_told") (.int 1))) .nil))
   (.cons (.try_ (.cons (.ex e) .nil) "RoomError" (some "_law_e") (.cons (.asg "_law_told" (.bin .Add (.var "_law_told") (.blt .int (.cons (.call "_law_alone" (.cons (.var "_law_e") (.cons (.int w) .nil))) .nil)))) .nil)) ss))) ⟨s₀,H⟩ Q X:=by
 have tk:(H++[HO.inst c]).take H.length=H:=List.take_left ..
 refine aA ac (xQ hz (uS (hx _ fun y v h1 _ h3 _=>(if_neg h1).trans h3) ⟨⟨rfl,hz,by rw [bp,beq_self_eq_true]; rfl⟩,aA (af (aa rfl) ac (.add _ _)) (bC ⟨trivial,tk,aL ?_⟩)⟩))
 have K1: ∀ y v,y≠ "_law_told" →y≠ "_law_e" →s₀ y=some v→low H.length v→((((St.mk (fun y=>if y= "_law_told" then some (V.int 0) else s₀ y) H).exc c none).set "_law_told" (.int (0+1))).cut H.length).s y=some v:=fun y v h1 _ h3 h4=>md ((if_neg h1).trans ((if_neg h1).trans h3)) h4
 have T1:((((St.mk (fun y=>if y= "_law_told" then some (V.int 0) else s₀ y) H).exc c none).set "_law_told" (.int (0+1))).cut H.length).s "_law_told" =some (.int 1):=md rfl trivial
 show wSs Φ G _ ((((St.mk (fun y=>if y= "_law_told" then some (V.int 0) else s₀ y) H).exc c none).set "_law_told" (.int (0+1))).cut H.length) Q X
 have E1:((((St.mk (fun y=>if y= "_law_told" then some (V.int 0) else s₀ y) H).exc c none).set "_law_told" (.int (0+1))).cut H.length).H=H:=tk
 generalize ((((St.mk (fun y=>if y= "_law_told" then some (V.int 0) else s₀ y) H).exc c none).set "_law_told" (.int (0+1))).cut H.length)=st₁ at K1 T1 E1
 obtain ⟨s,H'⟩:=st₁
 have E1:H'=H:=E1
 subst E1
 have T1:s "_law_told" =some (.int 1):=T1
 refine xQ hz (uS (hx _ K1) ⟨⟨rfl,hz,by rw [bp,show ("RoomError" == "RoomError")=true from rfl,Bool.or_true]⟩,aA (af (aa (v:=.int 1) (by exact T1)) (aB (aH (ai (cL (aa rfl) ac) ha)) (.int true)) (.add _ _)) (bC ⟨trivial,tk,aL ?_⟩)⟩)
 have T2:(((((St.mk s H').exc c (some "_law_e")).set "_law_told" (.int (1+if true=true then 1 else 0))).unset "_law_e").cut H'.length).s "_law_told" =some (.int 2):=md rfl trivial
 show wSs Φ G _ (((((St.mk s H').exc c (some "_law_e")).set "_law_told" (.int (1+if true=true then 1 else 0))).unset "_law_e").cut H'.length) Q X
 have E2:(((((St.mk s H').exc c (some "_law_e")).set "_law_told" (.int (1+if true=true then 1 else 0))).unset "_law_e").cut H'.length).H=H':=tk
 generalize (((((St.mk s H').exc c (some "_law_e")).set "_law_told" (.int (1+if true=true then 1 else 0))).unset "_law_e").cut H'.length)=st₂ at T2 E2
 obtain ⟨s',H''⟩:=st₂
 have E2:H''=H':=E2
 subst E2
 exact hr s' T2
end
theorem ko {α:Type} (xs:List α) (lo hi:Nat):(slice xs lo hi).length≤xs.length:=by
 rw [slice,List.length_drop,List.length_take]
 exact Nat.le_trans (Nat.sub_le _ _) (Nat.min_le_right _ _)
theorem km {α:Type} {xs:List α} {lo hi:Nat} {x:α} (h:x∈slice xs lo hi):x∈xs:=List.mem_of_mem_take (List.mem_of_mem_drop h)
theorem lG {α β:Type} (f:α→β) (xs:List α) (l h:Option Int):slice (xs.map f) (bM (xs.map f).length l) (bQ (xs.map f).length h)=(slice xs (bM xs.length l) (bQ xs.length h)).map f:=by
 rw [List.length_map,slice,slice,List.map_drop,List.map_take]
section
variable {C:Cx} {k:Nat} {H:List HO}
theorem wy (F:bO C "_law_alone" ["_law_e", "_law_which"] hZ) {e:Nat} {c:String} {w:Int} (h:H[e]?= some (.inst c))
  (hq:eqB (.lst [.bool (bp "BadName" c),.bool (bp "BadBound" c),.bool (bp "NoThing" c),.bool (bp "NoStore" c)]) (.lst ((List.range 4).map fun i:Nat=>V.bool (eqB (.int i) (.int w))))=true):Calls C (k+1) "_law_alone" [.loc e,.int w] H (.ok (.bool true)) H:=by
 have x:mq H (.loc e) c:=.mk h
 refine aq F rfl (aA (bg (aK (jN (aa rfl) x) (we (jN (aa rfl) x) (jN (aa rfl) x) (jN (aa rfl) x))) .lst) (aP (kT (iv (wf (aa rfl) x) (iv (ae (aa rfl)
  (gk (g:=fun i:Nat=>V.int i) (q:=fun i:Nat=>V.bool (eqB (.int i) (.int w))) (rs:=List.range 4) (aB (aH ac) (.range1 _)) (gQ (n:=4) (by decide)) (fun i _=>cM (aa rfl) (aa rfl) aX) .lst) (.eq (.self _) (.self _) rfl rfl) hq) jV))) (aJ rfl trivial)))
theorem xj {s:String→Option V} {H':List HO} (e:H'=H) (h:s "_law_told" =some (.int 2)):wSs (Calls C k) C.glo (.cons (.ret (.cmp .Eq (.var "_law_told") (.int 2))) .nil) ⟨s,H'⟩ (fun fl st=>ku fl=.bool true∧low H.length (.bool true)∧st.H.take H.length=H) noX:=
 aP (ae (aa (v:=.int 2) (by exact h)) ac aX rfl) (aJ e trivial)
theorem rg (F:bO C "_law_refused" ["_law_text_here"] eX) (hz:az H) {T:List Nat} (Ga:Calls C k "read" [.str T] H (.err "NoStore") H)
  (Ge:Calls C k "_law_alone" [.loc H.length,.int 3] (H++[.inst "NoStore"]) (.ok (.bool true)) (H++[.inst "NoStore"])):Calls C (k+1) "_law_refused" [.str T] H (.ok (.bool true)) H:=
 aq F rfl (pp hz (fun s K=>gf (aH (aa (K _ (.str T) (by decide) (by decide) rfl trivial))) Ga) Ge fun s h=>xj rfl h)
noncomputable def odd1:List (List Nat):=[[],[98,111,117,110,100,32,49],[98,111,117,110,100,32,49,10],[98,111,117,110,100,32,49,10,58],[98,111,117,110,100,32,54,52,10,58,32,48,61,48,32,50,53,53,61,45,49],[98,111,117,110,100,32,49,10,58,10],[32,98,111,117,110,100,32,49,10,58]]
noncomputable def odd2:List (List Nat):=[[98,111,117,110,100,32,49,10,58,32,48,61,48,32,48,61,48],[98,111,117,110,100,32,50,10,58,32,49,61,50,32,48,61,51],[98,111,117,110,100,32,54,53,10,58],[98,111,117,110,100,32,48,10,58],[98,111,117,110,100,32,48,49,10,58],[66,111,117,110,100,32,49,10,58]]
noncomputable def odd3:List (List Nat):=[[98,111,117,110,100,32,51,10,58,32,55,61]++List.replicate 60 57,[98,111,117,110,100,32,51,10,58,32,55,61]++List.replicate 61 57,[98,111,117,110,100,32,51,10,58,32,55,61,45,48],[98,111,117,110,100,32,51,10,58,32,55,61,43,49]]
noncomputable def oddS:List (List Nat):=odd1++odd2++odd3++[[98,111,117,110,100,32,51,10,58,32,45]++[48,61,53]]
theorem qi:oddS.length=18∧∀ s∈oddS,s.length≤100:=by decide +kernel
theorem rA {α:Type} {xs:List α} {n:Nat} (h:xs.length=n) (hn:0 < n) (c:Int): ∃ x,xs[(c % (n:Int)).toNat]?= some x∧x∈xs:=by
 have h0:0≤c % (n:Int):=Int.emod_nonneg _ (by lia)
 have h1:c % (n:Int) < n:=Int.emod_lt_of_pos _ (by lia)
 have h2:(c % (n:Int)).toNat < xs.length:=by lia
 exact ⟨xs[(c % (n:Int)).toNat],List.getElem?_eq_getElem h2,List.getElem_mem h2⟩
theorem Bx (F:bO C "_law_odd" ["_law_cell"] kY) (c:Int): ∃ U:List Nat,U.length≤100∧Calls C (k+1) "_law_odd" [.int c] H (.ok (.str U)) H:=by
 obtain ⟨U,h1,h2⟩:=rA qi.1 (by decide) c
 have h1:oddS[(c % 18).toNat]?= some U:=h1
 refine ⟨U,qi.2 U h2,aq F rfl ?_⟩
 have c9: ∀ {n:Nat},n≤1000→2≤n→∀ st:St,Ev (Calls C k) C.glo (.bin .Add (.str [98,111,117,110,100,32,51,10,58,32,55,61]) (.bin .Mult (.str [57]) (.int n))) st (.str ([98,111,117,110,100,32,51,10,58,32,55,61]++List.replicate n 57)) st:=fun {n} h1 h2 st=>af ag (af ag ac (.rep h2 h1)) (.cat (by rw [List.length_replicate]; show 12+n≤_; exact lin [n] [(1,.v 0,.n 1000)] 1 (.a (.n 12) (.v 0)) (.n 16000000) rfl h1))
 refine aA (bg (vs:=odd1.map .str) (aK ag (aK ag (aK ag (aK ag (we ag ag ag))))) .lst) ?_
 refine aA (fM (xs:=odd1.map .str) (ys:=odd2.map .str) (aa rfl) (bg (aK ag (aK ag (aK ag (we ag ag ag)))) .lst) (.lst _) (.lst _) (by decide) .lst) ?_
 refine aA (fM (xs:=odd1.map .str++odd2.map .str) (ys:=odd3.map .str) (aa rfl) (bg (aK (c9 (n:=60) (by decide) (by decide) _) (we (c9 (n:=61) (by decide) (by decide) _) ag ag)) .lst) (.lst _) (.lst _) (by decide) .loc) ?_
 refine rI (dc (aa rfl) bF (aH (af ag ag (.cat (by decide)))) bF (by decide)) ?_
 refine aP (am (aa rfl) (af (aa rfl) ac (.mod (by decide))) (.seq (xs:=oddS.map .str) (.loc ?_) (Int.emod_nonneg _ (by decide)) (by rw [List.getElem?_map,h1]; rfl))) ⟨rfl,trivial,?_⟩
 ·show ((H++[_]).set H.length _)[H.length]?= _
  rw [io,bF]; rfl
 ·show ((H++[_]).set H.length _).take H.length=H
  rw [io,List.take_left]
end
end
noncomputable section
open PySem
section
variable {C:Cx} {k:Nat} {H:List HO}
structure Chg (H:List HO) (T:List Nat) (c o:Int) (x:Nat) (st:St):Prop where
 tab:st.H=H++[.list ((ak 10 T).map .str)]
 pos:st.s "_law_at" =some (.int (c / 8 % ((T.length:Nat)+1)))
 sign:st.s "_law_sign" =some (.str [x])
 rows:st.s "_law_rows" =some (.loc H.length)
 fst:st.s "_law_first" =some (.int (c / 8 % ((ak 10 T).length:Nat)))
 snd:st.s "_law_second" =some (.int (o % ((ak 10 T).length:Nat)))
 text:st.s "_law_text_here" =some (.str T)
 cell:st.s "_law_cell" =some (.int c)
 othr:st.s "_law_other" =some (.int o)
theorem kj (c:Nat) (w:List Nat):0 < (ak c w).length:=List.length_pos_iff.mpr (jy c w)
theorem sU (T:List Nat) (hT:T.length≤2000000) (c o:Int): ∃ x,∀ Q:Flow→St→Prop,(∀ st,Chg H T c o x st→wSs (Calls C k) C.glo dP st Q noX)→
  wSs (Calls C k) C.glo ds ⟨dy ["_law_text_here", "_law_cell", "_law_other"] [.str T,.int c,.int o],H⟩ Q noX:=by
 obtain ⟨y,hy,_⟩:=rA (n:=80) (xs:=[33,34,35,36,38,39,40,41,42,44,46,47,59,60,62,63,64,65,66,67,68,69,70,71,72,73,74,75,76,77,78,79,80,81,82,83,84,85,86,87,88,89,90,91,92,93,94,95,96,97,98,99,100,101,102,103,104,105,106,107,108,109,110,111,112,113,114,115,116,117,118,119,120,121,122,123,124,125,126,9]) (by decide +kernel) (by decide) (o / 20)
 obtain ⟨x,hx,_⟩:=rA (n:=20) (xs:=[48,49,50,51,52,53,54,55,56,57,61,45,58,32,10,98,100,43,120]++[y]) rfl (by decide) o
 have nn:((0:Int)) < ((ak 10 T).map V.str).length:=by rw [List.length_map]; exact Int.ofNat_lt.mpr (kj 10 T)
 refine ⟨x,fun Q tail=>?_⟩
 refine aA (af (af (aa rfl) ac (.div (by decide) (by decide))) (af (aB (aH (aa rfl)) (.len (.str _))) ac (.add _ _)) (.mod (by lia))) ?_
 refine aA ag (aA (am (af ag (am (aa rfl) (af (af (aa rfl) ac (.div (by decide) (by decide))) ac (.mod (by decide))) (.str (Int.emod_nonneg _ (by decide)) (by exact hy))) (.cat (by show 19+1≤_; decide))) (af (aa rfl) ac (.mod (by decide))) (.str (Int.emod_nonneg _ (by decide)) (by exact hx))) ?_)
 refine aA (cU (aa rfl) (.split _) (aH ag) (cw (Nat.le_trans hT (by decide))) .loc) ?_
 refine aA (af (af (aa rfl) ac (.div (by decide) (by decide))) (aB (aH (aa rfl)) (.len (.seq (.loc bF)))) (.mod nn)) ?_
 refine aA (af (aa rfl) (aB (aH (aa rfl)) (.len (.seq (.loc bF)))) (.mod nn)) ?_
 refine tail _ ⟨rfl,rfl,rfl,rfl,?_,?_,rfl,rfl,rfl⟩
 ·show some (V.int (c / 8 % (((ak 10 T).map V.str).length:Nat)))=_
  rw [List.length_map]
 ·show some (V.int (o % (((ak 10 T).map V.str).length:Nat)))=_
  rw [List.length_map]
theorem vM (o:Int): ∃ n:Nat,([V.int 60,.int 61,.int 61,.int 59])[(o % 4).toNat]?= some (.int n)∧2≤n∧n≤100:=by
 have h:o % 4=0∨o % 4=1∨o % 4=2∨o % 4=3:=by lia
 rcases h with h | h | h | h<;>rw [h]
 ·exact ⟨60,rfl,by decide,by decide⟩
 ·exact ⟨61,rfl,by decide,by decide⟩
 ·exact ⟨61,rfl,by decide,by decide⟩
 ·exact ⟨59,rfl,by decide,by decide⟩
theorem yJ (o:Int): ∃ s:List Nat,([V.str [],.str [45]])[(o % 2).toNat]?= some (.str s)∧s.length≤1:=by
 have h:o % 2=0∨o % 2=1:=by lia
 rcases h with h | h<;>rw [h]
 ·exact ⟨[],rfl,by decide⟩
 ·exact ⟨[45],rfl,by decide⟩
theorem ni {ss:List (List Nat)} {n:Nat} (h1:ss.length≤n) (h2: ∀ s∈ss,s.length≤5000) (hn:n≤1000):(aN [10] ss).length+(ss.length+1)*([10].length+1)≤6000000:=by
 have a:=gP (sep:=[10]) ss h2
 have b:ss.length*(5000+[10].length)≤1000*5001:=Nat.mul_le_mul_right _ (Nat.le_trans h1 hn)
 show (aN [10] ss).length+(ss.length+1)*2≤6000000
 lia
theorem rj (F:bO C "_law_changed" ["_law_text_here", "_law_cell", "_law_other"] ds) {T:List Nat} (hT:T.length≤2000000) (hn:(ak 10 T).length≤257) (hr: ∀ r∈ak 10 T,r.length≤5000) (c o:Int)
  (Go: ∀ H:List HO,∃ U:List Nat,U.length≤100∧Calls C k "_law_odd" [.int o] H (.ok (.str U)) H): ∃ U:List Nat,U.length≤6000000∧Calls C (k+1) "_law_changed" [.str T,.int c,.int o] H (.ok (.str U)) H:=by
 obtain ⟨x,hd⟩:=sU (C:=C) (k:=k) (H:=H) T hT c o
 have rp:=kj 10 T
 generalize hrs:ak 10 T=rs at hn hr rp
 have sl:=fun lo hi=>ko T lo hi
 have tk: ∀ z:HO,(H++[z]).take H.length=H:=fun z=>List.take_left ..
 have m0:=Int.emod_nonneg (c / 8) (show ((rs.length:Nat):Int)≠0 by lia)
 have m1:=Int.emod_lt_of_pos (c / 8) (show (0:Int) < ((rs.length:Nat):Int) by lia)
 have m2:=Int.emod_nonneg o (show ((rs.length:Nat):Int)≠0 by lia)
 have m3:=Int.emod_lt_of_pos o (show (0:Int) < ((rs.length:Nat):Int) by exact (Int.lt_of_le_of_lt m0 m1))
 have cq: ∀ {st:St} {n:Int},Chg H T c o x st→∀ r,decide (c % 8=n)=r→Ev (Calls C k) C.glo (.cmp .Eq (.bin .Mod (.var "_law_cell") (.int 8)) (.int n)) st (.bool r) st:=fun g r e=>ae (af (aa g.cell) ac (.mod (by decide))) ac aX e
 have c1: ∀ {st:St} {ss:Ss} {Q:Flow→St→Prop} {n:Int} {tt:Ss},Chg H T c o x st→c % 8=n→wSs (Calls C k) C.glo tt st (andThen (fun st=>wSs (Calls C k) C.glo ss st Q noX) Q) noX→wSs (Calls C k) C.glo (.cons (.ite (.cmp .Eq (.bin .Mod (.var "_law_cell") (.int 8)) (.int n)) tt .nil) ss) st Q noX:=fun g e w=>bl (cq g true (decide_eq_true e)) w
 have c0: ∀ {st:St} {ss:Ss} {Q:Flow→St→Prop} {n:Int} {tt:Ss},Chg H T c o x st→c % 8≠n→wSs (Calls C k) C.glo ss st Q noX→wSs (Calls C k) C.glo (.cons (.ite (.cmp .Eq (.bin .Mod (.var "_law_cell") (.int 8)) (.int n)) tt .nil) ss) st Q noX:=fun g e w=>aR (cq g false (decide_eq_false e)) w
 have fin: ∀ {st:St} {U:List Nat},Chg H T c o x st→ku (.ret (.str U))=.str U∧low H.length (.str U)∧st.H.take H.length=H:=fun g=>⟨rfl,trivial,by rw [g.tab]; exact tk _⟩
 have h8:c % 8=0∨c % 8=1∨c % 8=2∨c % 8=3∨c % 8=4∨c % 8=5∨c % 8=6∨c % 8=7:=by lia
 rcases h8 with h | h | h | h | h | h | h | h
 ·refine ⟨_,?_,aq F rfl (hd _ fun st g=>c1 g h (aP (af (af (bw (aa g.text) rfl (aa g.pos) (.str _)) (aa g.sign) (.cat ?_)) (aV (aa g.text) rfl (aa g.pos) (.str _)) (.cat ?_)) (aF (fin g))))⟩
  ·rw [List.length_append,List.length_append,List.length_singleton]; have:=sl (bM T.length none) (bQ T.length (some (c / 8 % ((T.length:Nat)+1)))); have:=sl (bM T.length (some (c / 8 % ((T.length:Nat)+1)))) (bQ T.length none); exact lin [_,_,_] [(2,.v 2,.n 2000000),(1,.v 0,.v 2),(1,.v 1,.v 2)] 1 (.a (.a (.v 0) (.n 1)) (.v 1)) (.n 6000000) rfl hT (by assumption) this
  ·rw [List.length_singleton]; have:=sl (bM T.length none) (bQ T.length (some (c / 8 % ((T.length:Nat)+1)))); exact lin [_,_] [(1,.v 1,.n 2000000),(1,.v 0,.v 1)] 1 (.a (.v 0) (.n 1)) (.n 16000000) rfl hT this
  ·rw [List.length_append,List.length_singleton]; have:=sl (bM T.length none) (bQ T.length (some (c / 8 % ((T.length:Nat)+1)))); have:=sl (bM T.length (some (c / 8 % ((T.length:Nat)+1)))) (bQ T.length none); exact lin [_,_,_] [(2,.v 2,.n 2000000),(1,.v 0,.v 2),(1,.v 1,.v 2)] 1 (.a (.a (.v 0) (.n 1)) (.v 1)) (.n 16000000) rfl hT (by assumption) this
 ·refine ⟨_,?_,aq F rfl (hd _ fun st g=>c0 g (by lia) (c1 g h (aP (af (af (bw (aa g.text) rfl (aa g.pos) (.str _)) (aa g.sign) (.cat ?_)) (aV (aa g.text) rfl (af (aa g.pos) ac (.add _ _)) (.str _)) (.cat ?_)) (aF (fin g)))))⟩
  ·rw [List.length_append,List.length_append,List.length_singleton]; have:=sl (bM T.length none) (bQ T.length (some (c / 8 % ((T.length:Nat)+1)))); have:=sl (bM T.length (some (c / 8 % ((T.length:Nat)+1)+1))) (bQ T.length none); exact lin [_,_,_] [(2,.v 2,.n 2000000),(1,.v 0,.v 2),(1,.v 1,.v 2)] 1 (.a (.a (.v 0) (.n 1)) (.v 1)) (.n 6000000) rfl hT (by assumption) this
  ·rw [List.length_singleton]; have:=sl (bM T.length none) (bQ T.length (some (c / 8 % ((T.length:Nat)+1)))); exact lin [_,_] [(1,.v 1,.n 2000000),(1,.v 0,.v 1)] 1 (.a (.v 0) (.n 1)) (.n 16000000) rfl hT this
  ·rw [List.length_append,List.length_singleton]; have:=sl (bM T.length none) (bQ T.length (some (c / 8 % ((T.length:Nat)+1)))); have:=sl (bM T.length (some (c / 8 % ((T.length:Nat)+1)+1))) (bQ T.length none); exact lin [_,_,_] [(2,.v 2,.n 2000000),(1,.v 0,.v 2),(1,.v 1,.v 2)] 1 (.a (.a (.v 0) (.n 1)) (.v 1)) (.n 16000000) rfl hT (by assumption) this
 ·refine ⟨_,?_,aq F rfl (hd _ fun st g=>c0 g (by lia) (c0 g (by lia) (c1 g h (aP (af (bw (aa g.text) rfl (aa g.pos) (.str _)) (aV (aa g.text) rfl (af (aa g.pos) ac (.add _ _)) (.str _)) (.cat ?_)) (aF (fin g))))))⟩
  ·rw [List.length_append]; have:=sl (bM T.length none) (bQ T.length (some (c / 8 % ((T.length:Nat)+1)))); have:=sl (bM T.length (some (c / 8 % ((T.length:Nat)+1)+1))) (bQ T.length none); exact lin [_,_,_] [(2,.v 2,.n 2000000),(1,.v 0,.v 2),(1,.v 1,.v 2)] 1 (.a (.v 0) (.v 1)) (.n 6000000) rfl hT (by assumption) this
  ·have:=sl (bM T.length none) (bQ T.length (some (c / 8 % ((T.length:Nat)+1)))); have:=sl (bM T.length (some (c / 8 % ((T.length:Nat)+1)+1))) (bQ T.length none); exact lin [_,_,_] [(2,.v 2,.n 2000000),(1,.v 0,.v 2),(1,.v 1,.v 2)] 1 (.a (.v 0) (.v 1)) (.n 16000000) rfl hT (by assumption) this
 ·have f1:(c / 8 % (rs.length:Nat)).toNat < rs.length:=by lia
  have f2:(o % (rs.length:Nat)).toNat < rs.length:=by lia
  generalize hA:c / 8 % ((rs.length:Nat):Int)=a at m0 m1 f1
  generalize hB:o % ((rs.length:Nat):Int)=b at m2 m3 f2
  have ga: ∀ H:List HO,Idx (H++[.list (rs.map .str)]) (.loc H.length) (.int a) (.str rs[a.toNat]):=fun H=>.seq (.loc bF) m0 (by rw [List.getElem?_map,List.getElem?_eq_getElem f1]; rfl)
  have gb: ∀ H:List HO,Idx (H++[.list (rs.map .str)]) (.loc H.length) (.int b) (.str rs[b.toNat]):=fun H=>.seq (.loc bF) m2 (by rw [List.getElem?_map,List.getElem?_eq_getElem f2]; rfl)
  have ms:((rs.map V.str).set a.toNat (.str rs[b.toNat])).set b.toNat (.str rs[a.toNat])=((rs.set a.toNat rs[b.toNat]).set b.toNat rs[a.toNat]).map V.str:=by rw [List.map_set,List.map_set]
  have jl:=ni (ss:=(rs.set a.toNat rs[b.toNat]).set b.toNat rs[a.toNat]) (n:=257) (by rw [List.length_set,List.length_set]; exact hn) (fun s hs=>by
   rcases List.mem_or_eq_of_mem_set hs with hs | rfl
   ·rcases List.mem_or_eq_of_mem_set hs with hs | rfl
    ·exact hr s hs
    ·exact hr _ (List.getElem_mem f2)
   ·exact hr _ (List.getElem_mem f1)) (by decide)
  refine ⟨_,Nat.le_trans (Nat.le_add_right _ _) jl,aq F rfl (hd _ fun st g=>c0 g (by lia) (c0 g (by lia) (c0 g (by lia) (c1 g h ?_))))⟩
  obtain ⟨s,H'⟩:=st
  have e1:H'=_:=g.tab
  have g1:s "_law_rows" =some (.loc H.length):=g.rows
  have g2:s "_law_first" =some (.int (c / 8 % ((ak 10 T).length:Nat))):=g.fst
  have g3:s "_law_second" =some (.int (o % ((ak 10 T).length:Nat))):=g.snd
  rw [hrs] at g2 g3 e1
  rw [hA] at g2
  rw [hB] at g3
  subst e1
  refine aA (am (aa (by exact g1)) (aa (by exact g2)) (ga H)) ?_
  refine mI (am (aa (by exact g1)) (aa (by exact g3)) (gb H)) (aa (by exact g1)) (aa (by exact g2)) bF m0 (by rw [List.length_map]; exact f1) ?_
  refine mI (aa rfl) (aa (by exact g1)) (aa (by exact g3)) (xs:=(rs.map .str).set a.toNat (.str rs[b.toNat])) (by show ((H++[_]).set H.length _)[H.length]?= _; rw [io,bF]) m2 (by rw [List.length_set,List.length_map]; exact f2) ?_
  refine aP (iS ag (.join _) (aH (aa (by exact g1))) (.join (ss:=(rs.set a.toNat rs[b.toNat]).set b.toNat rs[a.toNat]) (.loc ?_) (Nat.le_trans jl (by decide)))) (aF ⟨rfl,trivial,?_⟩)
  ·show (((H++[_]).set H.length _).set H.length _)[H.length]?= _
   rw [io,io,bF,ms]
  ·show (((H++[_]).set H.length _).set H.length _).take H.length=H
   rw [io,io,tk]
 ·generalize hA:c / 8 % ((rs.length:Nat):Int)=a at m0 m1
  have sr:=fun lo hi=>ko rs lo hi
  have jl:=ni (ss:=slice rs (bM rs.length none) (bQ rs.length (some a))++slice rs (bM rs.length (some a)) (bQ rs.length (some (a+1)))++slice rs (bM rs.length (some a)) (bQ rs.length none)) (n:=771) (by
   rw [List.length_append,List.length_append]
   have:=sr (bM rs.length none) (bQ rs.length (some a)); have:=sr (bM rs.length (some a)) (bQ rs.length (some (a+1))); have:=sr (bM rs.length (some a)) (bQ rs.length none); exact lin [_,_,_,_] [(3,.v 3,.n 257),(1,.v 0,.v 3),(1,.v 1,.v 3),(1,.v 2,.v 3)] 1 (.a (.a (.v 0) (.v 1)) (.v 2)) (.n 771) rfl hn (by assumption) (by assumption) this) (fun s hs=>by
   rcases List.mem_append.mp hs with hs | hs
   ·rcases List.mem_append.mp hs with hs | hs<;>exact hr s (km hs)
   ·exact hr s (km hs)) (by decide)
  refine ⟨_,Nat.le_trans (Nat.le_add_right _ _) jl,aq F rfl (hd _ fun st g=>c0 g (by lia) (c0 g (by lia) (c0 g (by lia) (c0 g (by lia) (c1 g h ?_)))))⟩
  obtain ⟨s,H'⟩:=st
  have e1:H'=_:=g.tab
  have g1:s "_law_rows" =some (.loc H.length):=g.rows
  have g2:s "_law_first" =some (.int (c / 8 % ((ak 10 T).length:Nat))):=g.fst
  rw [hrs] at g2 e1
  rw [hA] at g2
  subst e1
  have b1:=sr (bM rs.length none) (bQ rs.length (some a))
  have b2:=sr (bM rs.length (some a)) (bQ rs.length (some (a+1)))
  have b3:=sr (bM rs.length (some a)) (bQ rs.length none)
  refine aP (iS ag (.join _) (aH (fM (fM (xs:=(slice rs (bM rs.length none) (bQ rs.length (some a))).map .str) (ys:=(slice rs (bM rs.length (some a)) (bQ rs.length (some (a+1)))).map .str)
   (cC (bw (aa (by exact g1)) rfl (aa (by exact g2)) (.seq (.loc bF) .lst)) (congrArg V.lst (lG V.str rs none (some a)))) (cC (sN (aa (by exact g1)) rfl (aa (by exact g2)) rfl (af (aa (by exact g2)) ac (.add _ _)) (.seq (.loc bF) .lst)) (congrArg V.lst (lG V.str rs (some a) (some (a+1))))) (.lst _) (.lst _) ?_ .lst)
   (cC (aV (aa (by exact g1)) rfl (aa (by exact g2)) (.seq (.loc bF) .lst)) (congrArg V.lst (lG V.str rs (some a) none))) (.lst _) (.lst _) ?_ .lst)) (.join (ss:=slice rs (bM rs.length none) (bQ rs.length (some a))++slice rs (bM rs.length (some a)) (bQ rs.length (some (a+1)))++slice rs (bM rs.length (some a)) (bQ rs.length none)) ?_ (Nat.le_trans jl (by decide)))) (aF ⟨rfl,trivial,tk _⟩)
  ·rw [List.length_map,List.length_map]; exact lin [_,_,_] [(2,.v 2,.n 257),(1,.v 0,.v 2),(1,.v 1,.v 2)] 1 (.a (.v 0) (.v 1)) (.n 16000000) rfl hn b1 b2
  ·rw [List.length_append,List.length_map,List.length_map,List.length_map]; exact lin [_,_,_,_] [(3,.v 3,.n 257),(1,.v 0,.v 3),(1,.v 1,.v 3),(1,.v 2,.v 3)] 1 (.a (.a (.v 0) (.v 1)) (.v 2)) (.n 16000000) rfl hn b1 b2 b3
  ·rw [List.map_append,List.map_append]; exact .lst _
 ·obtain ⟨U,u1,u2⟩:=Go (H++[.list (rs.map .str)])
  refine ⟨U,Nat.le_trans u1 (by decide),aq F rfl (hd _ fun st g=>c0 g (by lia) (c0 g (by lia) (c0 g (by lia) (c0 g (by lia) (c0 g (by lia) (c1 g h (aP (ai (aH (aa g.othr)) ?_) (aF (fin g)))))))))⟩
  rw [g.tab,hrs]; exact u2
 ·obtain ⟨n,n1,n2,n3⟩:=vM o
  obtain ⟨z,z1,z2⟩:=yJ (o / 4)
  have q0:=Int.emod_nonneg (o / 8) (show (256:Int)≠0 by decide)
  have q1:=Int.emod_lt_of_pos (o / 8) (show (0:Int) < 256 by decide)
  have q2:(ao (o / 8 % 256)).length≤4:=dM (n:=3) (by decide) (by lia)
  have q3:(o / 8 % 256).natAbs < 10 ^ 100:=Nat.lt_of_le_of_lt (by lia:(o / 8 % 256).natAbs≤255) (by decide)
  refine ⟨_,?_,aq F rfl (hd _ fun st g=>c0 g (by lia) (c0 g (by lia) (c0 g (by lia) (c0 g (by lia) (c0 g (by lia) (c0 g (by lia) (c1 g h (aA (af (am (bg (cL ag ag) .lst) (af (af (aa g.othr) ac (.div (by decide) (by decide))) ac (.mod (by decide))) (.seq (.lst _) (Int.emod_nonneg _ (by decide)) z1))
   (af ag (am (bg (aK ac (we ac ac ac)) .lst) (af (aa g.othr) ac (.mod (by decide))) (.seq (.lst _) (Int.emod_nonneg _ (by decide)) n1)) (.rep n2 (Nat.le_trans n3 (by decide)))) (.cat ?_))
   (aP (af (af (af ag (aB (aH (af (af (aa (by exact g.othr)) ac (.div (by decide) (by decide))) ac (.mod (by decide)))) (.str q3)) (.cat ?_)) ag (.cat ?_)) (aa rfl) (.cat ?_)) (aF ⟨rfl,trivial,?_⟩))))))))))⟩
  ·simp only [List.length_append,List.length_replicate,List.length_cons,List.length_nil]; exact lin [_,_,n] [(1,.v 2,.n 100),(1,.v 1,.n 1),(1,.v 0,.n 4)] 1 (.a (.a (.a (.a (.a (.a (.a (.a (.a (.a (.a (.a (.a (.n 0) (.n 1)) (.n 1)) (.n 1)) (.n 1)) (.n 1)) (.n 1)) (.n 1)) (.n 1)) (.n 1)) (.n 1)) (.v 0)) (.a (.n 0) (.n 1))) (.a (.v 1) (.v 2))) (.n 6000000) rfl n3 z2 q2
  ·rw [List.length_replicate]; exact lin [_,n] [(1,.v 1,.n 100),(1,.v 0,.n 1)] 1 (.a (.v 0) (.v 1)) (.n 16000000) rfl n3 z2
  ·simp only [List.length_cons,List.length_nil]; exact lin [_] [(1,.v 0,.n 4)] 1 (.a (.a (.a (.a (.a (.a (.a (.a (.a (.a (.a (.n 0) (.n 1)) (.n 1)) (.n 1)) (.n 1)) (.n 1)) (.n 1)) (.n 1)) (.n 1)) (.n 1)) (.n 1)) (.v 0)) (.n 16000000) rfl q2
  ·simp only [List.length_append,List.length_cons,List.length_nil]; exact lin [_] [(1,.v 0,.n 4)] 1 (.a (.a (.a (.a (.a (.a (.a (.a (.a (.a (.a (.a (.n 0) (.n 1)) (.n 1)) (.n 1)) (.n 1)) (.n 1)) (.n 1)) (.n 1)) (.n 1)) (.n 1)) (.n 1)) (.v 0)) (.a (.n 0) (.n 1))) (.n 16000000) rfl q2
  ·simp only [List.length_append,List.length_replicate,List.length_cons,List.length_nil]; exact lin [_,_,n] [(1,.v 2,.n 100),(1,.v 1,.n 1),(1,.v 0,.n 4)] 1 (.a (.a (.a (.a (.a (.a (.a (.a (.a (.a (.a (.a (.a (.n 0) (.n 1)) (.n 1)) (.n 1)) (.n 1)) (.n 1)) (.n 1)) (.n 1)) (.n 1)) (.n 1)) (.n 1)) (.v 0)) (.a (.n 0) (.n 1))) (.a (.v 1) (.v 2))) (.n 16000000) rfl n3 z2 q2
  ·show st.H.take H.length=H
   rw [g.tab]; exact tk _
 ·exact ⟨T,Nat.le_trans hT (by decide),aq F rfl (hd _ fun st g=>c0 g (by lia) (c0 g (by lia) (c0 g (by lia) (c0 g (by lia) (c0 g (by lia) (c0 g (by lia) (c0 g (by lia) (aP (aa g.text) (fin g)))))))))⟩
end
end
noncomputable section
open PySem
section
variable {C:Cx} {k:Nat} {H:List HO}
variable {i j b:Nat} {ts:Ts}
end
mutual
theorem nF: ∀ v:V,eqB v v=true
 | .none=>rfl
 | .bool b=>beq_self_eq_true b
 | .int i=>beq_self_eq_true i
 | .str s=>gY s
 | .tup vs=>gX vs
 | .lst vs=>gX vs
 | .rng _ _ _=>rfl
 | .loc _=>rfl
theorem gX: ∀ vs:List V,PyData.eqvAll (et vs) (et vs)=true
 | []=>rfl
 | v::vs=>Bool.and_eq_true_iff.mpr ⟨nF v,gX vs⟩
end
end
noncomputable section
open PySem
noncomputable def nJ:Ss:=
 (.cons (.asg "_law_text_here" (.call "_law_text" (.cons (.dpairs "_law_plain" "_law_name") (.cons (.var "_law_bound") .nil))))
 (.cons (.asg "_law_text_here" (.call "_law_changed" (.cons (.var "_law_text_here") (.cons (.call "_law_cell_at" (.cons (.var "_law_script") (.cons (.int 3) .nil))) (.cons (.call "_law_cell_at" (.cons (.var "_law_script") (.cons (.int 4) .nil))) .nil)))))
 (.cons (.asg "_law_due" (.call "_law_read" (.cons (.var "_law_text_here") .nil)))
 (.cons (.ite (.cmp .Is (.var "_law_due") .none) (.cons (.ret (.call "_law_refused" (.cons (.var "_law_text_here") .nil)))
 .nil) .nil)
 (.cons (.asg "_law_found" (.call "read" (.cons (.var "_law_text_here") .nil)))
 (.cons (.ret (.and (.cons (.isiS (.var "_law_found")) (.cons (.call "_law_whole" (.cons (.attr (.var "_law_found") "bound") .nil)) (.cons (.cmp .Eq (.tup (.cons (.attr (.var "_law_found") "bound") (.cons (.mcall "Store.things" "things" (.var "_law_found") .nil) .nil))) (.var "_law_due")) .nil)))))
 .nil))))))
noncomputable def nK:Ss:=
 (.cons (.asg "_law_plain" .dict)
 (.cons (.for_ "_law_k" (.blt .range (.cons (.var "_law_many") .nil)) (.cons (.asg "_law_more" (.bin .Add (.call "_law_cell_at" (.cons (.var "_law_script") (.cons (.bin .Add (.int 5) (.bin .Mod (.var "_law_k") (.int 12))) .nil))) (.bin .Mult (.bin .FloorDiv (.var "_law_k") (.int 12)) (.int 41))))
 (.cons (.asg "_law_name" (.bin .Mod (.var "_law_more") (.int 256)))
 (.cons (.ite (.cmp .Eq (.bin .Mod (.var "_law_frame") (.int 2)) (.int 1)) (.cons (.asg "_law_name" (.bin .Mod (.bin .Mult (.bin .Sub (.bin .Add (.bin .Mult (.bin .Mod (.bin .FloorDiv (.var "_law_frame") (.int 2)) (.int 16)) (.int 16)) (.bin .Mod (.var "_law_more") (.int 16))) (.int 37)) (.int 3)) (.int 256)))
 .nil) .nil)
 (.cons (.asgSub (.var "_law_plain") (.var "_law_name") (.bin .Sub (.bin .Mod (.bin .Add (.bin .FloorDiv (.var "_law_more") (.int 16)) (.var "_law_frame")) (.int 2001)) (.int 1000)))
 .nil)))))
 nJ))
noncomputable def nL:Ss:=
 (.cons (.asg "_law_frame" (.call "_law_cell_at" (.cons (.var "_law_script") (.cons (.int 1) .nil))))
 (.cons (.asg "_law_many" (.bin .Mod (.call "_law_cell_at" (.cons (.var "_law_script") (.cons (.int 2) .nil))) (.int 13)))
 (.cons (.ite (.cmp .Eq (.bin .Mod (.bin .FloorDiv (.call "_law_cell_at" (.cons (.var "_law_script") (.cons (.int 2) .nil))) (.int 13)) (.int 4)) (.int 1)) (.cons (.asg "_law_many" (.bin .Mod (.bin .FloorDiv (.call "_law_cell_at" (.cons (.var "_law_script") (.cons (.int 2) .nil))) (.int 52)) (.int 66)))
 .nil) .nil)
 nK)))
noncomputable def nM:Ss:=
 (.cons (.asg "_law_bound" (.bin .Add (.int 1) (.bin .Mod (.bin .FloorDiv (.call "_law_cell_at" (.cons (.var "_law_script") (.cons (.int 0) .nil))) (.int 4)) (.int 3))))
 (.cons (.ite (.cmp .Eq (.bin .Mod (.call "_law_cell_at" (.cons (.var "_law_script") (.cons (.int 0) .nil))) (.int 4)) (.int 1)) (.cons (.asg "_law_bound" (.bin .Add (.int 1) (.bin .Mod (.bin .FloorDiv (.call "_law_cell_at" (.cons (.var "_law_script") (.cons (.int 0) .nil))) (.int 4)) (.int 64))))
 .nil) .nil)
 nL))
noncomputable def jY (t:Int×Int):Int×V:=(t.1,.int t.2)
noncomputable def xU (us:Ts) (n v:Int):Ts:=if n∈us.map (·.1) then us.map fun t=>if t.1=n then (t.1,v) else t else us++[(n,v)]
theorem sk (us:Ts) (n v:Int):jX n (.int v) (us.map jY)=(xU us n v).map jY:=by
 have e:(us.map jY).map (·.1)=us.map (·.1):=by rw [List.map_map]; rfl
 rw [jX,e,xU]
 by_cases h:n∈us.map (·.1)
 ·rw [if_pos h,if_pos h,List.map_map,List.map_map]
  refine List.map_congr_left fun t _=>?_
  show (if t.1=n then (t.1,V.int v) else (t.1,V.int t.2))=jY (if t.1=n then (t.1,v) else t)
  by_cases q:t.1=n
  ·rw [if_pos q,if_pos q]; rfl
  ·rw [if_neg q,if_neg q]; rfl
 ·rw [if_neg h,if_neg h,List.map_append]; rfl
theorem sj {us:Ts} {n v:Int} (h:Pok us) (hn:0≤n∧n≤255) (hv:v.natAbs < 10 ^ 60):Pok (xU us n v):=by
 unfold xU
 by_cases q:n∈us.map (·.1)
 ·rw [if_pos q]
  have f1: ∀ t:Int×Int,(if t.1=n then (t.1,v) else t).1=t.1:=fun t=>by
   by_cases z:t.1=n
   ·rw [if_pos z]
   ·rw [if_neg z]
  refine ⟨?_,fun t ht=>?_,fun t ht=>?_⟩
  ·rw [List.pairwise_map]; exact h.ne.imp fun {a b} z=>by rw [f1,f1]; exact z
  ·obtain ⟨u,hu,rfl⟩:=List.mem_map.mp ht
   rw [f1]; exact h.low u hu
  ·obtain ⟨u,hu,rfl⟩:=List.mem_map.mp ht
   by_cases z:u.1=n
   ·rw [if_pos z]; exact hv
   ·rw [if_neg z]; exact h.vals u hu
 ·rw [if_neg q]; exact mP h ⟨hn,q⟩ hv
theorem iU: ∀ {us:Ts},us.Pairwise (fun a b=>a.1≠b.1)→∀ p∈us.map jY,(us.map jY).lookup p.1=some p.2
 | [],_,p,hp=>by cases hp
 | t::us,h,p,hp=>by
  obtain ⟨h1,h2⟩:=List.pairwise_cons.mp h
  rw [List.map_cons,cI]
  rcases List.mem_cons.mp hp with rfl | hp
  ·rw [if_pos (beq_self_eq_true _)]
  ·obtain ⟨u,hu,rfl⟩:=List.mem_map.mp hp
   rw [if_neg (fun z:((jY u).1 == (jY t).1)=true=>h1 u hu (beq_iff_eq.mp z).symm)]
   exact iU h2 _ hp
theorem th (o:Option (Nat×Ts)):pl 6 (oA o)=true:=by
 cases o with
 | none=>rfl
 | some p=>
  show (false || List.all [V.int p.1,.lst (p.2.map pr)] (pl 5))=true
  rw [Bool.false_or,List.all_cons,List.all_cons,List.all_nil,Bool.and_true]
  show (true && (false || List.all (p.2.map pr) (pl 4)))=true
  rw [Bool.true_and,Bool.false_or,List.all_map,List.all_eq_true]; exact fun _ _=>rfl
section
variable {C:Cx} {k:Nat} {ns:List Int}
structure G12 (C:Cx) (k:Nat) (ns:List Int):Prop where
 cell: ∀ (H:List HO) (j:Nat),Calls C k "_law_cell_at" [.lst (ns.map .int),.int j] H (.ok (.int (ns.getD j 0))) H
 text: ∀ {H:List HO} {b:Nat} {ts us:Ts} {v:V},Stk b ts→fk H v (us.map pr)→ts.Perm us→Calls C k "_law_text" [v,.int b] H (.ok (.str (ci b ts))) H
 chg: ∀ {H:List HO} {T:List Nat} (c o:Int),T.length≤2000000→(ak 10 T).length≤257→(∀ r∈ak 10 T,r.length≤5000)→∃ U:List Nat,U.length≤6000000∧Calls C k "_law_changed" [.str T,.int c,.int o] H (.ok (.str U)) H
 due: ∀ {H:List HO} {T:List Nat},T.length≤16000000→Calls C k "_law_read" [.str T] H (.ok (oA (ce T))) H
 ref: ∀ {H:List HO} {T:List Nat},az H→T.length≤16000000→Bad T→Calls C k "_law_refused" [.str T] H (.ok (.bool true)) H
 read: ∀ {H:List HO} {b:Nat} {ts:Ts},az H→Stk b ts→Calls C k "read" [.str (ci b ts)] H (.ok (.loc (H.length+1))) (H++[stA b ts]++[HO.obj H.length])
 whole: ∀ (H:List HO) (n:Int),Calls C k "_law_whole" [.int n] H (.ok (.bool true)) H
 things: ∀ {H:List HO} {i j:Nat} {b:Int} {ts:Ts},ll H i j b ts→Calls C k "Store.things" [.loc i] H (.ok (.lst (ts.map pr))) H
theorem vJ (kvs:List (Int×V)):az [.dictI kvs]:=fun c q=>by cases List.mem_singleton.mp q
abbrev wC (fl:Flow) (st:St):Prop:=ku fl=.bool true∧low ([]:List HO).length (.bool true)∧st.H.take ([]:List HO).length=[]
theorem yO (g:G12 C k ns) {σ:String→Option V} {us:Ts} {b:Nat} (pu:Pok us) (b1:1≤b) (b2:b≤64) (e1:σ "_law_plain" =some (.loc 0)) (e2:σ "_law_bound" =some (.int b)) (e3:σ "_law_script" =some (.lst (ns.map .int))):
  wSs (Calls C k) C.glo nJ ⟨σ,[.dictI (us.map jY)]⟩ wC noX:=by
 obtain ⟨j1,j2,j3⟩:=fY pu
 have gs:Stk b (bt [] us):=⟨b1,b2,j1,j2⟩
 have sp:ak 10 (ci b (bt [] us))=dw b (bt [] us):=eF (fun e=>nomatch e) (gG b _)
 obtain ⟨U,u1,u2⟩:=g.chg (H:=[.dictI (us.map jY)]) (ns.getD 3 0) (ns.getD 4 0) (Nat.le_trans (Nat.le_add_right _ _) gs.text) (by rw [sp]; exact gs.rows.1) (by rw [sp]; exact gs.rows.2)
 have u3:U.length≤16000000:=Nat.le_trans u1 (by decide)
 have kv:((us.map jY).map fun p=>V.tup [.int p.1,p.2])=us.map pr:=by rw [List.map_map]; rfl
 have nz:=vJ (us.map jY)
 refine aA (ai (cL (cC (qR e1 rfl nz (by decide) (iU pu.ne) .lst) (v':=.lst (us.map pr)) (congrArg V.lst kv)) (aa e2)) (g.text gs (.lst _) j3)) ?_
 refine aA (ai (we (aa rfl) (ai (cL (aa (by exact e3)) ac) (g.cell _ 3)) (ai (cL (aa (by exact e3)) ac) (g.cell _ 4))) u2) ?_
 refine aA (ai (aH (aa rfl)) (g.due u3)) ?_
 cases q:ce U with
 | none=>exact bl (cM (aa rfl) aO (.is .nn)) (aP (ai (aH (aa rfl)) (g.ref nz u3 (vU q))) (aF ⟨rfl,trivial,rfl⟩))
 | some p=>
  obtain ⟨b',ts⟩:=p
  obtain ⟨gt,rfl⟩:=qr q
  refine aR (cM (aa rfl) aO (.is (.xn fun z=>nomatch z))) ?_
  refine aA (qS (aH (aa rfl)) (g.read nz gt)) ?_
  have S:ll ([HO.dictI (us.map jY)]++[stA b' ts]++[HO.obj 1]) 2 1 b' ts:=⟨rfl,rfl⟩
  exact aP (kT (iv (wg (aa rfl) S.at) (iv (ai (aH (dL (aa rfl) S.at rfl)) (g.whole _ _)) (iv (ae (cY (cL (dL (aa rfl) S.at rfl) (kR (aa rfl) S.at rfl eA (g.things S)))) (aa rfl) (.eq (.self _) (.self _) (th (some (b',ts))) (th (some (b',ts)))) (nF _)) jV)))) ⟨rfl,trivial,rfl⟩
theorem tv (g:G12 C k ns) {σ:String→Option V} {b m:Nat} {f:Int} (hm:m≤66) (b1:1≤b) (b2:b≤64) (e1:σ "_law_many" =some (.int m)) (e2:σ "_law_bound" =some (.int b)) (e3:σ "_law_script" =some (.lst (ns.map .int))) (e4:σ "_law_frame" =some (.int f)):
  wSs (Calls C k) C.glo nK ⟨σ,[]⟩ wC noX:=by
 refine aA sP ?_
 refine ip (fun l st=>∃ us,st.H=[.dictI (us.map jY)]∧Pok us∧st.s "_law_plain" =some (.loc 0)∧st.s "_law_bound" =some (.int b)∧st.s "_law_script" =some (.lst (ns.map .int))∧st.s "_law_frame" =some (.int f)) (aB (aH (aa (by exact e1))) (.range1 _)) (gQ (n:=m) (Nat.le_trans hm (by decide))) ⟨[],rfl,qc,rfl,e2,e3,e4⟩ ?_ ?_
 ·rintro l w ⟨s,H'⟩ hw ⟨us,q1,q2,q3,q4,q5,q6⟩ Q' hQ
  have q1:H'=_:=q1
  subst q1
  obtain ⟨hl,rfl⟩:=qF hw
  have jc:=g.cell [.dictI (us.map jY)] (5+l % 12)
  generalize ns.getD (5+l % 12) 0=c at jc
  refine aA (af (ai (cL (aa (by exact q5)) (cC (af ac (af (aa rfl) ac (.mod (by decide))) (.add _ _)) (v':=.int (5+l % 12:Nat)) (congrArg V.int (by lia)))) jc) (af (af (aa rfl) ac (.div (by decide) (by decide))) ac (.mul (.inr (by decide)))) (.add _ _)) ?_
  generalize c+(l:Int) / 12*41=more
  refine aA (af (aa rfl) ac (.mod (by decide))) ?_
  have fin: ∀ (st:St) (n:Int),0≤n∧n≤255→st.H=[.dictI (us.map jY)]→st.s "_law_plain" =some (.loc 0)→st.s "_law_bound" =some (.int b)→st.s "_law_script" =some (.lst (ns.map .int))→st.s "_law_frame" =some (.int f)→st.s "_law_more" =some (.int more)→st.s "_law_name" =some (.int n)→
    wSs (Calls C k) C.glo (.cons (.asgSub (.var "_law_plain") (.var "_law_name") (.bin .Sub (.bin .Mod (.bin .Add (.bin .FloorDiv (.var "_law_more") (.int 16)) (.var "_law_frame")) (.int 2001)) (.int 1000))) .nil) st Q' (xN noX):=by
   rintro ⟨s,H'⟩ n hn r0 r1 r2 r3 r4 r5 r6
   have r0:H'=_:=r0
   subst r0
   have v0:=Int.emod_nonneg (more / 16+f) (show (2001:Int)≠0 by decide)
   have v1:=Int.emod_lt_of_pos (more / 16+f) (show (0:Int) < 2001 by decide)
   have hv:((more / 16+f) % 2001 - 1000).natAbs < 10 ^ 60:=Nat.lt_of_le_of_lt (by lia:((more / 16+f) % 2001 - 1000).natAbs≤1001) (by decide)
   refine xR (kvs:=us.map jY) (af (af (af (af (aa (by exact r5)) ac (.div (by decide) (by decide))) (aa (by exact r4)) (.add _ _)) ac (.mod (by decide))) ac (.sub _ _)) (aa (by exact r1)) (aa (by exact r6)) rfl (by rw [List.length_map]; exact Nat.lt_of_le_of_lt (lN q2) (by decide)) (bC (hQ _ ⟨xU us n ((more / 16+f) % 2001 - 1000),?_,sj q2 hn hv,by exact r1,by exact r2,by exact r3,by exact r4⟩).1)
   show [HO.dictI (jX n (.int ((more / 16+f) % 2001 - 1000)) (us.map jY))]=_
   rw [sk]
  by_cases h:f % 2=1
  ·refine bl (ae (af (aa (by exact q6)) ac (.mod (by decide))) ac aX (decide_eq_true h)) (aA (af (af (af (af (af (af (af (aa (by exact q6)) ac (.div (by decide) (by decide))) ac (.mod (by decide))) ac (.mul (.inr (by decide)))) (af (aa rfl) ac (.mod (by decide))) (.add _ _)) ac (.sub _ _)) ac (.mul (.inr (by decide)))) ac (.mod (by decide))) (bC (aL (fin _ _ ?_ rfl (by exact q3) (by exact q4) (by exact q5) (by exact q6) rfl rfl))))
   have a0:=Int.emod_nonneg ((f / 2 % 16*16+more % 16 - 37)*3) (show (256:Int)≠0 by decide)
   have a1:=Int.emod_lt_of_pos ((f / 2 % 16*16+more % 16 - 37)*3) (show (0:Int) < 256 by decide)
   lia
  ·refine aR (ae (af (aa (by exact q6)) ac (.mod (by decide))) ac aX (decide_eq_false h)) (fin _ (more % 256) ?_ rfl (by exact q3) (by exact q4) (by exact q5) (by exact q6) rfl rfl)
   lia
 ·rintro ⟨s,H'⟩ ⟨us,q1,q2,q3,q4,q5,q6⟩
  have q1:H'=_:=q1
  subst q1
  exact yO g q2 b1 b2 q3 q4 q5
theorem tw (g:G12 C k ns) {σ:String→Option V} {b:Nat} (b1:1≤b) (b2:b≤64) (e2:σ "_law_bound" =some (.int b)) (e3:σ "_law_script" =some (.lst (ns.map .int))):
  wSs (Calls C k) C.glo nL ⟨σ,[]⟩ wC noX:=by
 generalize hc:ns.getD 2 0=c
 have c2:=g.cell [] 2
 rw [hc] at c2
 have t0:=Int.emod_nonneg c (show (13:Int)≠0 by decide)
 have t1:=Int.emod_lt_of_pos c (show (0:Int) < 13 by decide)
 have t2:=Int.emod_nonneg (c / 52) (show (66:Int)≠0 by decide)
 have t3:=Int.emod_lt_of_pos (c / 52) (show (0:Int) < 66 by decide)
 refine aA (ai (cL (aa (by exact e3)) ac) (g.cell _ 1)) (aA (af (ai (cL (aa (by exact e3)) ac) c2) ac (.mod (by decide))) ?_)
 by_cases h:c / 13 % 4=1
 ·obtain ⟨m,hm⟩: ∃ m:Nat,c / 52 % 66=m:=⟨_,(Int.toNat_of_nonneg t2).symm⟩
  refine bl (ae (af (af (ai (cL (aa (by exact e3)) ac) c2) ac (.div (by decide) (by decide))) ac (.mod (by decide))) ac aX (decide_eq_true h)) (aA (cC (af (af (ai (cL (aa (by exact e3)) ac) c2) ac (.div (by decide) (by decide))) ac (.mod (by decide))) (congrArg V.int hm)) (bC (aL (tv g (m:=m) (by lia) b1 b2 rfl (by exact e2) (by exact e3) rfl))))
 ·obtain ⟨m,hm⟩: ∃ m:Nat,c % 13=m:=⟨_,(Int.toNat_of_nonneg t0).symm⟩
  rw [hm]
  exact aR (ae (af (af (ai (cL (aa (by exact e3)) ac) c2) ac (.div (by decide) (by decide))) ac (.mod (by decide))) ac aX (decide_eq_false h)) (tv g (m:=m) (by lia) b1 b2 rfl (by exact e2) (by exact e3) rfl)
theorem wx (F:bO C "law" ["_law_script"] nM) (g:G12 C k ns):Calls C (k+1) "law" [.lst (ns.map .int)] [] (.ok (.bool true)) []:=by
 generalize hc:ns.getD 0 0=c
 have c0:=g.cell [] 0
 rw [hc] at c0
 have t0:=Int.emod_nonneg (c / 4) (show (3:Int)≠0 by decide)
 have t1:=Int.emod_lt_of_pos (c / 4) (show (0:Int) < 3 by decide)
 have t2:=Int.emod_nonneg (c / 4) (show (64:Int)≠0 by decide)
 have t3:=Int.emod_lt_of_pos (c / 4) (show (0:Int) < 64 by decide)
 refine aq F rfl (aA (af ac (af (af (ai (cL (aa rfl) ac) c0) ac (.div (by decide) (by decide))) ac (.mod (by decide))) (.add _ _)) ?_)
 by_cases h:c % 4=1
 ·obtain ⟨b,hb⟩: ∃ b:Nat,1+c / 4 % 64=b:=⟨(1+c / 4 % 64).toNat,(Int.toNat_of_nonneg (by lia)).symm⟩
  exact bl (ae (af (ai (cL (aa rfl) ac) c0) ac (.mod (by decide))) ac aX (decide_eq_true h)) (aA (cC (af ac (af (af (ai (cL (aa rfl) ac) c0) ac (.div (by decide) (by decide))) ac (.mod (by decide))) (.add _ _)) (congrArg V.int hb)) (bC (aL (tw g (b:=b) (by lia) (by lia) rfl rfl))))
 ·obtain ⟨b,hb⟩: ∃ b:Nat,1+c / 4 % 3=b:=⟨(1+c / 4 % 3).toNat,(Int.toNat_of_nonneg (by lia)).symm⟩
  rw [hb]
  exact aR (ae (af (ai (cL (aa rfl) ac) c0) ac (.mod (by decide))) ac aX (decide_eq_false h)) (tw g (b:=b) (by lia) (by lia) rfl rfl)
end
end
noncomputable section
open PySem PySem.W PyProof.Rows
theorem sG {l:OpenLaw} {n:Nat} (hmost:l.most=some n) {args:List WData} (hpre:l.row.claim.pre args=true): ∃ ns:List Int,args=[.list (ns.map .int)]∧ns.length≤n:=by
 obtain ⟨h1,h2⟩:=pre_splitW hpre
 obtain ⟨d,r,rfl,hd,hr⟩:=hasAllW_cons h1
 have:=hasAllW_nil hr
 subst this
 obtain ⟨xs,rfl,hxs⟩:=hasW_list hd
 have key: ∀ xs:List WData,WShape.hasItems l.row.records xs .int=true→∃ ns:List Int,xs=ns.map .int:=by
  intro xs
  induction xs with
  | nil=>intro _; exact ⟨[],rfl⟩
  | cons x xs ih=>
   intro h
   have h:(WShape.has l.row.records x .int && WShape.hasItems l.row.records xs .int)=true:=h
   obtain ⟨i,rfl⟩:=hasW_int (Bool.and_eq_true_iff.mp h).1
   obtain ⟨ns,rfl⟩:=ih (Bool.and_eq_true_iff.mp h).2
   exact ⟨i::ns,rfl⟩
 obtain ⟨ns,rfl⟩:=key xs hxs
 refine ⟨ns,rfl,?_⟩
 have h2:WTm.holds l.row.records l.pre { args:=[.list (ns.map .int)]}=true:=h2
 unfold OpenLaw.pre at h2
 have h3:=(holds_andW h2).1
 rw [hmost] at h3
 have h4:=condW_of h3 (w_not (w_lt w_lit (w_len_list (w_arg rfl))))
 rw [Bool.not_eq_true',decide_eq_false_iff_not,List.length_map] at h4
 exact Int.ofNat_le.mp (Int.not_lt.mp h4)
noncomputable def zt (v:Value):Option { a:Addr // v=.ref a }:=match v with
 | .ref a=>some ⟨a,rfl⟩
 | _=>none
noncomputable def Cu (v:Value):Option { i:Int // ∃ t,v=.int i t }:=match v with
 | .int i t=>some ⟨i,t,rfl⟩
 | _=>none
noncomputable def oFn (d:Data):Option { fd:FuncData // d=.func fd }:=match d with
 | .func fd=>some ⟨fd,rfl⟩
 | _=>none
noncomputable def bSt (b:FuncBody):Option { ss:List Stmt // b=.stmts ss }:=match b with
 | .stmts ss=>some ⟨ss,rfl⟩
 | _=>none
noncomputable def Cg (K:Frag) (fd:FuncData) (ps:List String):Bool:=
 codeIn K fd.code fd.qualname && fd.closure.isEmpty && Nat.beq fd.globals mainGlobals && Nat.beq fd.builtins builtinsNs &&
 fd.scope.kind == .function && !fd.scope.isCoroutine && !fd.scope.isGenerator && (ps.all fun p=>kd fd.scope p == some .local || kd fd.scope p == some .cell) &&
 (fd.scope.names.all fun p=>!(p.2 == .free)) && decide ps.Nodup
noncomputable def glo? (K:Frag) (f:String):Option Value:=(nsIn K mainGlobals f).bind id
noncomputable def wZ (K:Frag) (f:String):Option Addr:=(glo? K f).bind fun v=>(zt v).map (·.1)
noncomputable def Dh (K:Frag) (cls:Addr) (m:String):Option Addr:=((findIn K (.ref cls) (m:Str)).bind id).bind fun v=>(zt v).map (·.1)
noncomputable def faK (K:Frag) (cls:Addr) (ms:List (String×String)) (f:String):Option Addr:=(ms.find? fun p=>p.2 == f).elim (wZ K f) fun p=>Dh K cls p.1
noncomputable def Au (K:Frag) (fa:String→Option Addr) (f:String):Option (Addr×Obj):=(fa f).bind fun a=>(K.lookup a).map fun o=>(a,o)
noncomputable def yW (K:Frag) (fa:String→Option Addr) (f:String):Option FuncData:=(Au K fa f).bind fun x=>(oFn x.2.data).map (·.1)
noncomputable def Bs (K:Frag) (fa:String→Option Addr) (f:String) (ps:List String):Bool:=(Au K fa f).any fun x=>(oFn x.2.data).any fun fd=>Cg K fd.1 ps
noncomputable def tJ (K:Frag) (fa:String→Option Addr) (N:Nm) (n:Nat) (f:String):Option Ss:=(yW K fa f).bind fun fd=>(bSt fd.body).map fun b=>cSs N n fd.scope b.1
theorem Bl {P:List Value→Prop} {n:Nat} (h: ∀ a r,r.length=n→P (a::r)) (l:List Value) (e:l.length=n+1):P l:=by
 cases l with
 | nil=>cases e
 | cons a r=>exact h a r (Nat.succ.inj e)
theorem Di {P:List Value→Prop} (h:P []) (l:List Value) (e:l.length=0):P l:=by rw [List.eq_nil_of_length_eq_zero e]; exact h
theorem lj {P:List Value→Prop} (h: ∀ a,P [a]): ∀ l,l.length=1→P l:=Bl fun a=>Di (P:=fun r=>P (a::r)) (h a)
theorem tu {P:List Value→Prop} (h: ∀ a b,P [a,b]): ∀ l,l.length=2→P l:=Bl fun a=>lj (P:=fun r=>P (a::r)) (h a)
theorem Bm {P:List Value→Prop} (h: ∀ a b c,P [a,b,c]): ∀ l,l.length=3→P l:=Bl fun a=>tu (P:=fun r=>P (a::r)) (h a)
theorem bI {α:Type} {o:Option α} {p:α→Bool} (h:o.any p=true): ∃ x,o=some x∧p x=true:=by
 cases o with
 | none=>cases h
 | some x=>exact ⟨x,rfl,h⟩
section
variable {prog:Program} {w:World} {s:Shared} {mg mb:Str→Option Value} {K:Frag}
noncomputable def yU (gl:List (String×Int)) (x:String):Option V:=(gl.lookup x).map .int
noncomputable def tz (K:Frag) (gl:List (String×Int)):Bool:=gl.all fun p=>(glo? K p.1).any fun v=>(Cu v).any fun j=>p.2 == j.1
noncomputable def yS (K:Frag) (fa:String→Option Addr) (f:String):Bool:=(yW K fa f).isSome && (fa f).any fun a=>(wZ K f).any fun b=>Nat.beq a b
noncomputable def fnT (K:Frag) (a:Addr):Bool:=typeIn K (.ref a) == some (.type "function")
noncomputable def tD (K:Frag) (cls:Addr) (fa:String→Option Addr) (ms:List (String×String)) (ats:List String):Bool:=
 (wZ K "Store").any (fun a=>Nat.beq a cls) && makesIn K cls && (fa "Store.__init__").any (fun a=>findIn K (.ref cls) "__init__" == some (some (.ref a)) && fnT K a) &&
 findIn K (.ref cls) "__getattribute__" == some (some (.builtin "object.__getattribute__")) && findIn K (.ref cls) "__getattr__" == some none && findIn K (.ref cls) "__setattr__" == some (some (.builtin "object.__setattr__")) &&
 plainOver K cls && hasDictIn K cls && ms.all (fun p=>(fa p.2).any fun a=>findIn K (.ref cls) (p.1:Str) == some (some (.ref a)) && fnT K a && keepIn K (.ref a)) && keepIn K (.ref cls) && ats.all (fun x=>findIn K (.ref cls) (x:Str) == some none)
  && lS K cls
noncomputable def zl (K:Frag):Bool:=bltNames.all fun f=>(nsIn K mainGlobals f).any fun o=>o.isNone
theorem ny {f:String} {v:Value} (e:glo? K f=some v):nsIn K mainGlobals f=some (some v):=by
 obtain ⟨o,h1,h2⟩:=Option.bind_eq_some_iff.mp e
 rw [h1]; exact congrArg some h2
theorem lU {f:String} {a:Addr} (e:wZ K f=some a):nsIn K mainGlobals f=some (some (.ref a)):=by
 obtain ⟨v,h1,h2⟩:=Option.bind_eq_some_iff.mp e
 obtain ⟨b,h3,rfl⟩:=Option.map_eq_some_iff.mp h2
 exact b.2▸ny h1
theorem vZ {fa:String→Option Addr} {f:String} {x:Addr×Obj} (e:Au K fa f=some x):fa f=some x.1∧K.lookup x.1=some x.2:=by
 obtain ⟨a,h1,h2⟩:=Option.bind_eq_some_iff.mp e
 obtain ⟨o,h3,rfl⟩:=Option.map_eq_some_iff.mp h2
 exact ⟨h1,h3⟩
theorem qn {gl:List (String×Int)} {x:String} {i:Int} (e:gl.lookup x=some i):(x,i)∈gl:=by
 induction gl with
 | nil=>cases e
 | cons p r ih=>
  rw [show (p::r).lookup x=if (x == p.1)=true then some p.2 else r.lookup x by rw [List.lookup]; cases x == p.1<;>rfl] at e
  by_cases q:(x == p.1)=true
  ·rw [if_pos q] at e; cases e
   rw [show x=p.1 from beq_iff_eq.mp q]; exact List.mem_cons_self
  ·rw [if_neg q] at e; exact List.mem_cons_of_mem _ (ih e)
theorem qE (X:K.In s.heap) (G:s.heap.Ns mainGlobals mg) {gl:List (String×Int)} (h:tz K gl=true) (x:String) (v:V) (e:yU gl x=some v): ∃ i t,v=.int i∧mg x=some (.int i t):=by
 obtain ⟨i,ei,rfl⟩:=Option.map_eq_some_iff.mp e
 obtain ⟨v,h1,h2⟩:=bI (List.all_eq_true.mp h _ (qn ei))
 obtain ⟨⟨j,t,hj⟩,_,h3⟩:=bI h2
 have h3:i=j:=beq_iff_eq.mp h3
 subst h3
 exact ⟨i,t,rfl,hj▸mg_of X G (ny h1)⟩
theorem sI {fa:String→Option Addr} (X:K.In s.heap) (G:s.heap.Ns mainGlobals mg) {f:String} (h:yS K fa f=true): ∃ a o fd,fa f=some a∧mg (f:Str)=some (.ref a)∧s.heap.get? a=some o∧o.data=.func fd:=by
 obtain ⟨h,h'⟩:=bz h
 obtain ⟨fd,h⟩:=Option.isSome_iff_exists.mp h
 obtain ⟨x,h1,h2⟩:=Option.bind_eq_some_iff.mp h
 obtain ⟨d,_,rfl⟩:=Option.map_eq_some_iff.mp h2
 obtain ⟨a,e1,h'⟩:=bI h'
 obtain ⟨b,e2,h'⟩:=bI h'
 obtain rfl:a=b:=Nat.eq_of_beq_eq_true h'
 obtain ⟨q1,q2⟩:=vZ h1
 rw [e1] at q1
 obtain rfl:a=x.1:=Option.some.inj q1
 exact ⟨x.1,x.2,d.1,e1,mg_of X G (lU e2),X _ _ q2,d.2⟩
theorem qZ {fa:String→Option Addr} {cls:Addr} {ms:List (String×String)} {ats:List String} (X:K.In s.heap) (G:s.heap.Ns mainGlobals mg) (h:tD K cls fa ms ats=true):wF s.heap mg K cls ms ats fa:=by
 obtain ⟨h,h12⟩:=bz h
 obtain ⟨h,h11⟩:=bz h
 obtain ⟨h,h10⟩:=bz h
 obtain ⟨h,h9⟩:=bz h
 obtain ⟨h,h8⟩:=bz h
 obtain ⟨h,h7⟩:=bz h
 obtain ⟨h,h6⟩:=bz h
 obtain ⟨h,h5⟩:=bz h
 obtain ⟨h,h4⟩:=bz h
 obtain ⟨h,h3⟩:=bz h
 obtain ⟨h1,h2⟩:=bz h
 obtain ⟨a,e1,h1⟩:=bI h1
 obtain rfl:a=cls:=Nat.eq_of_beq_eq_true h1
 obtain ⟨b,e3,h3⟩:=bI h3
 exact ⟨X,mg_of X G (lU e1),h2,⟨b,e3,beq_iff_eq.mp (bz h3).1,beq_iff_eq.mp (bz h3).2⟩,⟨beq_iff_eq.mp h4,beq_iff_eq.mp h5⟩,beq_iff_eq.mp h6,h7,h8,fun p hp=>by
  obtain ⟨c,e,q⟩:=bI (List.all_eq_true.mp h9 p hp)
  exact ⟨c,e,beq_iff_eq.mp (bz (bz q).1).1,beq_iff_eq.mp (bz (bz q).1).2,(bz q).2⟩,h10,fun x hx=>beq_iff_eq.mp (List.all_eq_true.mp h11 x hx)
  ,h12
  ⟩
noncomputable def yX (K:Frag) (exs:List String) (c:String):Bool:=(glo? K c).any fun v=>(zt v).any fun cls=>excIn K cls.1 xf "ValueError.__new__" && dK K cls.1 && kitOne K (.ref cls.1) (.type "ValueError") == some true &&
 exs.all fun c'=>(glo? K c').any fun v'=>(zt v').any fun cls'=>kitOne K (.ref cls.1) (.ref cls'.1) == some (bp c' c) && (!bp c' c || dB K cls.1 cls'.1)
theorem wb {p:Program} {loose:List Str} (X:K.In s.heap) (T:TopRead p loose mg mb s.heap) {exs:List String} (h:exs.all (yX K exs)=true): ∀ c∈exs,∃ cls,rE s.heap mg exs c cls:=fun c hc=>by
 obtain ⟨v,e1,h1⟩:=bI (List.all_eq_true.mp h c hc)
 obtain ⟨cls,_,h1⟩:=bI h1
 simp only [Bool.and_eq_true,beq_iff_eq,List.all_eq_true] at h1
 obtain ⟨⟨⟨h1,h2⟩,h3⟩,h4⟩:=h1
 refine ⟨cls.1,own_of_in X T (cls.2▸ny e1) h1,K,X,h2,h3,fun c' hc'=>?_⟩
 obtain ⟨v',e2,h5⟩:=bI (h4 c' hc')
 obtain ⟨cls',_,h5⟩:=bI h5
 simp only [Bool.and_eq_true,beq_iff_eq,Bool.or_eq_true,Bool.not_eq_true'] at h5
 exact ⟨cls'.1,mg_of X T.g (cls'.2▸ny e2),h5.1,fun z=>h5.2.resolve_left fun y=>by rw [z] at y; cases y⟩
theorem nG: ∀ f∈bltNames,bootBuiltins (f:Str)=some (eV f)∧(f:Str)≠("__name__" :Str):=by decide +kernel
noncomputable def Dg (prog:Program) (w:World) (s:Shared) (mg mb:Str→Option Value) (K:Frag) (X:K.In s.heap) (G:s.heap.Ns mainGlobals mg) (B:s.heap.Ns builtinsNs mb) (nl:s.heap.NoLimit)
  (hb: ∀ n:Str,n≠("__name__" :Str)→mb n=bootBuiltins n) (fs:List String) (gl:List (String×Int)) (hg:tz K gl=true) (cls:Addr) (ms:List (String×String)) (ats:List String) (fa:String→Option Addr) (hcl:(ms.isEmpty || tD K cls fa ms ats)=true) (hf:fs.all (yS K fa)=true) (hbl:zl K=true) (exs:List String) (hx: ∀ c∈exs,∃ cls,rE s.heap mg exs c cls):Cx where
 prog:=prog
 w:=w
 base:=s.heap
 os:=s.os
 mg:=mg
 mb:=mb
 g:=G
 b:=B
 nolimit:=nl
 glo:=yU gl
 hglo:=qE X G hg
 fns:=fs
 exs:=exs
 hexs:=hx
 fa:=fa
 hfns:=fun f h=>sI X G (List.all_eq_true.mp hf f h)
 K:=K
 cls:=cls
 meths:=ms
 ats:=ats
 hcls:=fun h=>qZ X G ((Bool.or_eq_true_iff.mp hcl).resolve_left fun z=>h (List.isEmpty_iff.mp z))
 blts:=fun f h=>by
  obtain ⟨o,h1,h2⟩:=bI (List.all_eq_true.mp hbl f h)
  rw [Option.isNone_iff_eq_none.mp h2] at h1
  exact ⟨mg_none_of X G h1,by rw [hb _ (nG f h).2]; exact (nG f h).1⟩
theorem aD (C:Cx) (X:K.In C.base) {f:String} {ps:List String} {ss:Ss} {l:List String} {n:Nat} (h:Bs K C.fa f ps=true) (hb: ∀ vals:List Value,vals.length=ps.length→(yW K C.fa f).map (fun fd=>bindArgs fd ⟨vals,[]⟩)=some (pure (lg ps vals)))
  (hc:tJ K C.fa (C.nm l) n f=some ss):bO C f ps ss:=by
 obtain ⟨x,e1,h⟩:=bI (o:=Au K C.fa f) h
 obtain ⟨fd,e2,h⟩:=bI h
 have e3:yW K C.fa f=some fd.1:=by rw [yW,e1]; show (oFn x.2.data).map _=_; rw [e2]; rfl
 simp only [Cg,Bool.and_eq_true,beq_iff_eq,Bool.not_eq_true',decide_eq_true_eq,List.isEmpty_iff,List.all_eq_true,Bool.or_eq_true] at h
 obtain ⟨⟨⟨⟨⟨⟨⟨⟨⟨h1,h3⟩,h4⟩,h5⟩,h6⟩,h7⟩,h8⟩,h15⟩,h16⟩,h17⟩:=h
 rw [tJ,e3] at hc
 obtain ⟨b,_,hc⟩:=Option.map_eq_some_iff.mp (show (bSt fd.1.body).map _=some ss from hc)
 refine ⟨x.1,x.2,fd.1,b.1,⟨(vZ e1).1,X _ _ (vZ e1).2,fd.2,codeRec_of X h1,b.2,h3,Nat.eq_of_beq_eq_true h4,Nat.eq_of_beq_eq_true h5,h6,h7,h8,fun vals hl=>?_,h15,fun n e=>?_,h17,fun k=>hc▸ux n _ _⟩⟩
 ·have:=hb vals hl
  rw [e3] at this
  exact Option.some.inj this
 ·exact Bool.noConfusion ((show (NameKind.free == NameKind.free)=true from rfl).symm.trans (h16 _ (cr e)))
noncomputable def yI:Gh:=⟨fun _=>False,fun _=>False,fun _ h=>h,fun _=>False,fun _=>False,fun _ h=>h⟩
theorem vT {l:OpenLaw} {C:Cx} {k:Nat} {s₀ s₁:Shared} {args:List WData} {vals:List Value} {fa:Addr} {n:Nat} (hp:C.prog=l.row.prog) (hb:C.base=s₁.heap) (ho:C.os=s₁.os) (hg:s₁.gens= #[]) (hmost:l.most=some n) (hn:n≤1000)
  (hpre:l.row.claim.pre args=true) (hwl:WellAll C.w.params s₁.heap vals args) (hfa:C.fa "law" =some fa) (hk:k≤200)
  (law: ∀ ns:List Int,ns.length≤n→Calls C k "law" [.lst (ns.map .int)] [] (.ok (.bool true)) []):
  wpAny (model l.row.prog C.w) callerA (call (.ref fa) vals) (fun v s'=>GoodWG l.row.claim (classAt s₀.heap) (ExcName.means s₀.heap) args s₁ (.ok (.ret v)) s')
   (fun e s'=>GoodWG l.row.claim (classAt s₀.heap) (ExcName.means s₀.heap) args s₁ (.error e) s') s₁:=by
 obtain ⟨ns,rfl,hlen⟩:=sG hmost hpre
 have I0:Inv C yI [] [] s₁:=⟨fun b o e=>by rw [← hb]; exact e,rfl,List.nodup_nil,(fun a h=>by cases h),(fun a h=>by cases h),(fun i a o h=>by simp at h),(fun a h=>by cases h),(fun i a o h=>by simp at h),(fun a h=>h.elim),(fun a h=>h.elim),(fun a h=>h.elim),(fun a h=>h.elim),(fun _ a h=>h.elim),hg,ho.symm⟩
 have hargs:aI s₁.heap [] (Nl yI [] []) [.lst (ns.map .int)] vals:=by
  cases hwl with
  | cons h1 h2=>
   cases h2
   cases h1 with
   | list ha hall=>
    refine .cons (.lst ⟨_,ha⟩ (fun q=>?_) (by simp [au]; exact lin [_,n] [(1,.v 1,.n 1000),(1,.v 0,.v 1)] 1 (.v 0) (.n 16777216) rfl hn hlen) ?_) .nil
    ·rcases q with ⟨i,o,h,_⟩ | h
     ·simp at h
     ·exact h
    ·clear ha hpre
     rename_i vs
     have key: ∀ (ns:List Int) (vs:List Value),WellAll C.w.params s₁.heap vs (ns.map .int)→aI s₁.heap [] (Nl yI [] []) (ns.map .int) vs:=by
      intro ns
      induction ns with
      | nil=>intro vs h; cases h; exact .nil
      | cons i ns ih=>
       intro vs h
       cases h with
       | cons a b=>cases a; exact .cons (.int _ _) (ih _ b)
     exact key ns vs hall
 have hroom:bK (2*k) callerA yI:=⟨by show 1+claimMargin+2*k < 900; unfold claimMargin; exact lin [k] [(2,.v 0,.n 200)] 1 (.a (.a (.a (.n 1) (.n 300)) (.m 2 (.v 0))) (.n 1)) (.n 900) rfl hk,by show 4+4*(2*k) < 9000; exact lin [k] [(8,.v 0,.n 200)] 1 (.a (.a (.n 4) (.m 4 (.m 2 (.v 0)))) (.n 1)) (.n 9000) rfl hk,(fun v h=>by cases h),[],rfl,fun _ h=>by cases h⟩
 have hc:=law ns hlen callerA s₁ yI [] vals fa hroom I0 hargs hfa
 rw [show C.M=model l.row.prog C.w by rw [← hp]] at hc
 refine enter_call (codeAny_mono hc fun res s' p=>?_)
 refine GoodW.toG ?_
 cases res with
 | error e=>exact p.elim
 | ok fl=>
  cases fl with
  | next=>exact p.elim
  | brk=>exact p.elim
  | cont=>exact p.elim
  | ret mv=>
   obtain ⟨ρ',r,I',S⟩:=p
   cases r
   refine ⟨.inl ⟨_,.bool true,[],rfl,fun cls=>rfl,.bool true,?_,fun _=>⟨List.nodup_nil,fun a h=>by cases h⟩⟩,fun b o e=>I'.base b o (by rw [hb]; exact e),I'.os.trans ho,I'.gens⟩
   exact postW_of (show WShape.has l.row.records (.bool true) .bool=true by simp [WShape.has,WShape.arms]) (w_eq_bool (w_res rfl) w_lit) rfl
end
end
end Mine
set_option Elab.async false
set_option maxHeartbeats 0
namespace Mine
open PySem PySem.W PyProof.Rows
theorem oL (l:List Char):Str.ofString (String.ofList l)=⟨(l.map Char.toNat).toArray⟩:=Fast.ofString_ofList l
noncomputable abbrev TG:Type:=∀ (_ _ _ _ _ _ _ _ _ _ _ _ _ _ _ _ _ _ _ _ _ _ _ _ _ _ _ _ _ _ _ _ _ _ _ _ _ _ _ _ _ _ _ _ _ _ _ _ _ _ _ _ _ _ _ _ _ _ _ _ _ _ _ _ _ _ _ _ _ _ _ _ _ _ _ _ _ _ _ _ _ _ _ _ _ _ _ _ _ _ _ _ _ _ _ _ _ _ _ _ _ _ _ _ _ _ _ _ _ _ _ _ _ _ _ _ _ _ _ _ _ _ _ _ _ _ _ _ _ _ _ _ _ _ _ _ _ _ _ _ _ _ _ _ _ _ _ _ _ _ _ _ _ _ _ _ _ _ _ _ _ _ _:Str),Program
open Str in
structure PG (F:TG):Prop where
 h:PySem.Challenge.pw_uf050020_12=F (ofString "_law_odd") (ofString "_law_cell") (ofString "_law_some") (ofString "") (ofString "bound 1") (ofString "bound 1\n") (ofString "bound 1\n:") (ofString "bound 64\n: 0=0 255=-1") (ofString "bound 1\n:\n") (ofString " bound 1\n:") (ofString "bound 1\n: 0=0 0=0") (ofString "bound 2\n: 1=2 0=3") (ofString "bound 65\n:") (ofString "bound 0\n:") (ofString "bound 01\n:") (ofString "Bound 1\n:") (ofString "bound 3\n: 7=") (ofString "9") (ofString "bound 3\n: 7=-0") (ofString "bound 3\n: 7=+1") (ofString "append") (ofString "bound 3\n: -") (ofString "0=5") (ofString "_law_changed") (ofString "_law_text_here") (ofString "_law_other") (ofString "_law_at") (ofString "len") (ofString "!\"#$&'()*,./;<>?@ABCDEFGHIJKLMNOPQRSTUVWXYZ[\\]^_`abcdefghijklmnopqrstuvwxyz{|}~\t") (ofString "_law_sign") (ofString "0123456789=-: \nbd+x") (ofString "_law_rows") (ofString "split") (ofString "\n") (ofString "_law_first") (ofString "_law_second") (ofString "_law_kept") (ofString "join") (ofString "_law_figures") (ofString "-") (ofString "bound 3\n: ") (ofString "str") (ofString "=") (ofString "_law_alone") (ofString "_law_e") (ofString "_law_which") (ofString "_law_kinds") (ofString "isinstance") (ofString "BadName") (ofString "BadBound") (ofString "NoThing") (ofString "NoStore") (ofString "ValueError") (ofString "_law_k") (ofString "range") (ofString ".0") (ofString "fast") (ofString "_law_refused") (ofString "_law_told") (ofString "read") (ofString "RoomError") (ofString "int") (ofString "law") (ofString "_law_script") (ofString "_law_bound") (ofString "_law_cell_at") (ofString "_law_frame") (ofString "_law_many") (ofString "_law_plain") (ofString "_law_more") (ofString "_law_name") (ofString "_law_text") (ofString "_law_due") (ofString "_law_read") (ofString "_law_found") (ofString "Store") (ofString "_law_whole") (ofString "bound") (ofString "things") (ofString "_law_signs") (ofString "_law_left") (ofString "_law_worth") (ofString "bound ") (ofString "_law_waiting") (ofString "_law_one") (ofString "sorted") (ofString "_law_bits") (ofString "_law_inside") (ofString " ") (ofString ":") (ofString "_law_low") (ofString "0") (ofString "_law_high") (ofString "1") (ofString "_law_number") (ofString "_law_word") (ofString "0123456789") (ofString "_law_row") (ofString "_law_pair") (ofString "number_of") (ofString "word") (ofString "most") (ofString "figures") (ofString "no number") (ofString "sign") (ofString "text") (ofString "rows") (ofString "no bound") (ofString "store") (ofString "row") (ofString "words") (ofString "parts") (ofString "no thing") (ofString "name") (ofString "no name") (ofString "put") (ofString "written") (ofString "not written so") (ofString "__name__") (ofString "law_uf050020_12") (ofString "bool") (ofString "splitrooms.stores") (ofString "__init__") (ofString "self") (ofString "held") (ofString "value") (ofString "need_name") (ofString "before") (ofString "value_in") (ofString "with_thing") (ofString "take") (ofString "_wall") (ofString "find") (ofString "look") (ofString "size") (ofString "depth") (ofString "board") (ofString "rooms") (ofString "rooms_for") (ofString "list") (ofString "splitrooms.notes") (ofString "room") (ofString "thing") (ofString "splitrooms.rooms") (ofString "ahead") (ofString "parted") (ofString "bits") (ofString "at") (ofString "first") (ofString "signs") (ofString "last") (ofString "waiting") (ofString "found") (ofString "pop") (ofString "both") (ofString "SIGNS") (ofString "mixed") (ofString "number") (ofString "place") (ofString "splitrooms.mixing") (ofString "k") (ofString "splitrooms.errors") (ofString "/claim/cut.py")
open Str in
noncomputable def uW:TG:=by
 refine (?k:PG ?F→TG) ⟨?h⟩
 case h=>
  dsimp only [PySem.Challenge.pw_uf050020_12]
  generalize ofString "_law_odd" =x0,ofString "_law_cell" =x1,ofString "_law_some" =x2,ofString "" =x3,ofString "bound 1" =x4,ofString "bound 1\n" =x5,ofString "bound 1\n:" =x6,ofString "bound 64\n: 0=0 255=-1" =x7,ofString "bound 1\n:\n" =x8,ofString " bound 1\n:" =x9,ofString "bound 1\n: 0=0 0=0" =x10,ofString "bound 2\n: 1=2 0=3" =x11,ofString "bound 65\n:" =x12,ofString "bound 0\n:" =x13,ofString "bound 01\n:" =x14,ofString "Bound 1\n:" =x15,ofString "bound 3\n: 7=" =x16,ofString "9" =x17,ofString "bound 3\n: 7=-0" =x18,ofString "bound 3\n: 7=+1" =x19,ofString "append" =x20,ofString "bound 3\n: -" =x21,ofString "0=5" =x22,ofString "_law_changed" =x23,ofString "_law_text_here" =x24,ofString "_law_other" =x25,ofString "_law_at" =x26,ofString "len" =x27,ofString "!\"#$&'()*,./;<>?@ABCDEFGHIJKLMNOPQRSTUVWXYZ[\\]^_`abcdefghijklmnopqrstuvwxyz{|}~\t" =x28,ofString "_law_sign" =x29,ofString "0123456789=-: \nbd+x" =x30,ofString "_law_rows" =x31,ofString "split" =x32,ofString "\n" =x33,ofString "_law_first" =x34,ofString "_law_second" =x35,ofString "_law_kept" =x36,ofString "join" =x37,ofString "_law_figures" =x38,ofString "-" =x39,ofString "bound 3\n: " =x40,ofString "str" =x41,ofString "=" =x42,ofString "_law_alone" =x43,ofString "_law_e" =x44,ofString "_law_which" =x45,ofString "_law_kinds" =x46,ofString "isinstance" =x47,ofString "BadName" =x48,ofString "BadBound" =x49,ofString "NoThing" =x50,ofString "NoStore" =x51,ofString "ValueError" =x52,ofString "_law_k" =x53,ofString "range" =x54,ofString ".0" =x55,ofString "fast" =x56,ofString "_law_refused" =x57,ofString "_law_told" =x58,ofString "read" =x59,ofString "RoomError" =x60,ofString "int" =x61,ofString "law" =x62,ofString "_law_script" =x63,ofString "_law_bound" =x64,ofString "_law_cell_at" =x65,ofString "_law_frame" =x66,ofString "_law_many" =x67,ofString "_law_plain" =x68,ofString "_law_more" =x69,ofString "_law_name" =x70,ofString "_law_text" =x71,ofString "_law_due" =x72,ofString "_law_read" =x73,ofString "_law_found" =x74,ofString "Store" =x75,ofString "_law_whole" =x76,ofString "bound" =x77,ofString "things" =x78,ofString "_law_signs" =x79,ofString "_law_left" =x80,ofString "_law_worth" =x81,ofString "bound " =x82,ofString "_law_waiting" =x83,ofString "_law_one" =x84,ofString "sorted" =x85,ofString "_law_bits" =x86,ofString "_law_inside" =x87,ofString " " =x88,ofString ":" =x89,ofString "_law_low" =x90,ofString "0" =x91,ofString "_law_high" =x92,ofString "1" =x93,ofString "_law_number" =x94,ofString "_law_word" =x95,ofString "0123456789" =x96,ofString "_law_row" =x97,ofString "_law_pair" =x98,ofString "number_of" =x99,ofString "word" =x100,ofString "most" =x101,ofString "figures" =x102,ofString "no number" =x103,ofString "sign" =x104,ofString "text" =x105,ofString "rows" =x106,ofString "no bound" =x107,ofString "store" =x108,ofString "row" =x109,ofString "words" =x110,ofString "parts" =x111,ofString "no thing" =x112,ofString "name" =x113,ofString "no name" =x114,ofString "put" =x115,ofString "written" =x116,ofString "not written so" =x117,ofString "__name__" =x118,ofString "law_uf050020_12" =x119,ofString "bool" =x120,ofString "splitrooms.stores" =x121,ofString "__init__" =x122,ofString "self" =x123,ofString "held" =x124,ofString "value" =x125,ofString "need_name" =x126,ofString "before" =x127,ofString "value_in" =x128,ofString "with_thing" =x129,ofString "take" =x130,ofString "_wall" =x131,ofString "find" =x132,ofString "look" =x133,ofString "size" =x134,ofString "depth" =x135,ofString "board" =x136,ofString "rooms" =x137,ofString "rooms_for" =x138,ofString "list" =x139,ofString "splitrooms.notes" =x140,ofString "room" =x141,ofString "thing" =x142,ofString "splitrooms.rooms" =x143,ofString "ahead" =x144,ofString "parted" =x145,ofString "bits" =x146,ofString "at" =x147,ofString "first" =x148,ofString "signs" =x149,ofString "last" =x150,ofString "waiting" =x151,ofString "found" =x152,ofString "pop" =x153,ofString "both" =x154,ofString "SIGNS" =x155,ofString "mixed" =x156,ofString "number" =x157,ofString "place" =x158,ofString "splitrooms.mixing" =x159,ofString "k" =x160,ofString "splitrooms.errors" =x161,ofString "/claim/cut.py" =x162
  rfl
 case k=>exact fun _=>?F
theorem progG_ok:PG uW:=⟨rfl⟩
noncomputable def z0:Str:=⟨⟨[95,108,97,119,95,111,100,100]⟩⟩
noncomputable def z1:Str:=⟨⟨[95,108,97,119,95,99,101,108,108]⟩⟩
noncomputable def z2:Str:=⟨⟨[95,108,97,119,95,115,111,109,101]⟩⟩
noncomputable def z3:Str:=⟨⟨[]⟩⟩
noncomputable def z4:Str:=⟨⟨[98,111,117,110,100,32,49]⟩⟩
noncomputable def z5:Str:=⟨⟨[98,111,117,110,100,32,49,10]⟩⟩
noncomputable def z6:Str:=⟨⟨[98,111,117,110,100,32,49,10,58]⟩⟩
noncomputable def z7:Str:=⟨⟨[98,111,117,110,100,32,54,52,10,58,32,48,61,48,32,50,53,53,61,45,49]⟩⟩
noncomputable def z8:Str:=⟨⟨[98,111,117,110,100,32,49,10,58,10]⟩⟩
noncomputable def z9:Str:=⟨⟨[32,98,111,117,110,100,32,49,10,58]⟩⟩
noncomputable def z10:Str:=⟨⟨[98,111,117,110,100,32,49,10,58,32,48,61,48,32,48,61,48]⟩⟩
noncomputable def z11:Str:=⟨⟨[98,111,117,110,100,32,50,10,58,32,49,61,50,32,48,61,51]⟩⟩
noncomputable def z12:Str:=⟨⟨[98,111,117,110,100,32,54,53,10,58]⟩⟩
noncomputable def z13:Str:=⟨⟨[98,111,117,110,100,32,48,10,58]⟩⟩
noncomputable def z14:Str:=⟨⟨[98,111,117,110,100,32,48,49,10,58]⟩⟩
noncomputable def z15:Str:=⟨⟨[66,111,117,110,100,32,49,10,58]⟩⟩
noncomputable def z16:Str:=⟨⟨[98,111,117,110,100,32,51,10,58,32,55,61]⟩⟩
noncomputable def z17:Str:=⟨⟨[57]⟩⟩
noncomputable def z18:Str:=⟨⟨[98,111,117,110,100,32,51,10,58,32,55,61,45,48]⟩⟩
noncomputable def z19:Str:=⟨⟨[98,111,117,110,100,32,51,10,58,32,55,61,43,49]⟩⟩
noncomputable def z20:Str:=⟨⟨[97,112,112,101,110,100]⟩⟩
noncomputable def z21:Str:=⟨⟨[98,111,117,110,100,32,51,10,58,32,45]⟩⟩
noncomputable def z22:Str:=⟨⟨[48,61,53]⟩⟩
noncomputable def z23:Str:=⟨⟨[95,108,97,119,95,99,104,97,110,103,101,100]⟩⟩
noncomputable def z24:Str:=⟨⟨[95,108,97,119,95,116,101,120,116,95,104,101,114,101]⟩⟩
noncomputable def z25:Str:=⟨⟨[95,108,97,119,95,111,116,104,101,114]⟩⟩
noncomputable def z26:Str:=⟨⟨[95,108,97,119,95,97,116]⟩⟩
noncomputable def z27:Str:=⟨⟨[108,101,110]⟩⟩
noncomputable def z28:Str:=⟨⟨[33,34,35,36,38,39,40,41,42,44,46,47,59,60,62,63,64,65,66,67,68,69,70,71,72,73,74,75,76,77,78,79,80,81,82,83,84,85,86,87,88,89,90,91,92,93,94,95,96,97,98,99,100,101,102,103,104,105,106,107,108,109,110,111,112,113,114,115,116,117,118,119,120,121,122,123,124,125,126,9]⟩⟩
noncomputable def z29:Str:=⟨⟨[95,108,97,119,95,115,105,103,110]⟩⟩
noncomputable def z30:Str:=⟨⟨[48,49,50,51,52,53,54,55,56,57,61,45,58,32,10,98,100,43,120]⟩⟩
noncomputable def z31:Str:=⟨⟨[95,108,97,119,95,114,111,119,115]⟩⟩
noncomputable def z32:Str:=⟨⟨[115,112,108,105,116]⟩⟩
noncomputable def z33:Str:=⟨⟨[10]⟩⟩
noncomputable def z34:Str:=⟨⟨[95,108,97,119,95,102,105,114,115,116]⟩⟩
noncomputable def z35:Str:=⟨⟨[95,108,97,119,95,115,101,99,111,110,100]⟩⟩
noncomputable def z36:Str:=⟨⟨[95,108,97,119,95,107,101,112,116]⟩⟩
noncomputable def z37:Str:=⟨⟨[106,111,105,110]⟩⟩
noncomputable def z38:Str:=⟨⟨[95,108,97,119,95,102,105,103,117,114,101,115]⟩⟩
noncomputable def z39:Str:=⟨⟨[45]⟩⟩
noncomputable def z40:Str:=⟨⟨[98,111,117,110,100,32,51,10,58,32]⟩⟩
noncomputable def z41:Str:=⟨⟨[115,116,114]⟩⟩
noncomputable def z42:Str:=⟨⟨[61]⟩⟩
noncomputable def z43:Str:=⟨⟨[95,108,97,119,95,97,108,111,110,101]⟩⟩
noncomputable def z44:Str:=⟨⟨[95,108,97,119,95,101]⟩⟩
noncomputable def z45:Str:=⟨⟨[95,108,97,119,95,119,104,105,99,104]⟩⟩
noncomputable def z46:Str:=⟨⟨[95,108,97,119,95,107,105,110,100,115]⟩⟩
noncomputable def z47:Str:=⟨⟨[105,115,105,110,115,116,97,110,99,101]⟩⟩
noncomputable def z48:Str:=⟨⟨[66,97,100,78,97,109,101]⟩⟩
noncomputable def z49:Str:=⟨⟨[66,97,100,66,111,117,110,100]⟩⟩
noncomputable def z50:Str:=⟨⟨[78,111,84,104,105,110,103]⟩⟩
noncomputable def z51:Str:=⟨⟨[78,111,83,116,111,114,101]⟩⟩
noncomputable def z52:Str:=⟨⟨[86,97,108,117,101,69,114,114,111,114]⟩⟩
noncomputable def z53:Str:=⟨⟨[95,108,97,119,95,107]⟩⟩
noncomputable def z54:Str:=⟨⟨[114,97,110,103,101]⟩⟩
noncomputable def z55:Str:=⟨⟨[46,48]⟩⟩
noncomputable def z56:Str:=⟨⟨[102,97,115,116]⟩⟩
noncomputable def z57:Str:=⟨⟨[95,108,97,119,95,114,101,102,117,115,101,100]⟩⟩
noncomputable def z58:Str:=⟨⟨[95,108,97,119,95,116,111,108,100]⟩⟩
noncomputable def z59:Str:=⟨⟨[114,101,97,100]⟩⟩
noncomputable def z60:Str:=⟨⟨[82,111,111,109,69,114,114,111,114]⟩⟩
noncomputable def z61:Str:=⟨⟨[105,110,116]⟩⟩
noncomputable def z62:Str:=⟨⟨[108,97,119]⟩⟩
noncomputable def z63:Str:=⟨⟨[95,108,97,119,95,115,99,114,105,112,116]⟩⟩
noncomputable def z64:Str:=⟨⟨[95,108,97,119,95,98,111,117,110,100]⟩⟩
noncomputable def z65:Str:=⟨⟨[95,108,97,119,95,99,101,108,108,95,97,116]⟩⟩
noncomputable def z66:Str:=⟨⟨[95,108,97,119,95,102,114,97,109,101]⟩⟩
noncomputable def z67:Str:=⟨⟨[95,108,97,119,95,109,97,110,121]⟩⟩
noncomputable def z68:Str:=⟨⟨[95,108,97,119,95,112,108,97,105,110]⟩⟩
noncomputable def z69:Str:=⟨⟨[95,108,97,119,95,109,111,114,101]⟩⟩
noncomputable def z70:Str:=⟨⟨[95,108,97,119,95,110,97,109,101]⟩⟩
noncomputable def z71:Str:=⟨⟨[95,108,97,119,95,116,101,120,116]⟩⟩
noncomputable def z72:Str:=⟨⟨[95,108,97,119,95,100,117,101]⟩⟩
noncomputable def z73:Str:=⟨⟨[95,108,97,119,95,114,101,97,100]⟩⟩
noncomputable def z74:Str:=⟨⟨[95,108,97,119,95,102,111,117,110,100]⟩⟩
noncomputable def z75:Str:=⟨⟨[83,116,111,114,101]⟩⟩
noncomputable def z76:Str:=⟨⟨[95,108,97,119,95,119,104,111,108,101]⟩⟩
noncomputable def z77:Str:=⟨⟨[98,111,117,110,100]⟩⟩
noncomputable def z78:Str:=⟨⟨[116,104,105,110,103,115]⟩⟩
noncomputable def z79:Str:=⟨⟨[95,108,97,119,95,115,105,103,110,115]⟩⟩
noncomputable def z80:Str:=⟨⟨[95,108,97,119,95,108,101,102,116]⟩⟩
noncomputable def z81:Str:=⟨⟨[95,108,97,119,95,119,111,114,116,104]⟩⟩
noncomputable def z82:Str:=⟨⟨[98,111,117,110,100,32]⟩⟩
noncomputable def z83:Str:=⟨⟨[95,108,97,119,95,119,97,105,116,105,110,103]⟩⟩
noncomputable def z84:Str:=⟨⟨[95,108,97,119,95,111,110,101]⟩⟩
noncomputable def z85:Str:=⟨⟨[115,111,114,116,101,100]⟩⟩
noncomputable def z86:Str:=⟨⟨[95,108,97,119,95,98,105,116,115]⟩⟩
noncomputable def z87:Str:=⟨⟨[95,108,97,119,95,105,110,115,105,100,101]⟩⟩
noncomputable def z88:Str:=⟨⟨[32]⟩⟩
noncomputable def z89:Str:=⟨⟨[58]⟩⟩
noncomputable def z90:Str:=⟨⟨[95,108,97,119,95,108,111,119]⟩⟩
noncomputable def z91:Str:=⟨⟨[48]⟩⟩
noncomputable def z92:Str:=⟨⟨[95,108,97,119,95,104,105,103,104]⟩⟩
noncomputable def z93:Str:=⟨⟨[49]⟩⟩
noncomputable def z94:Str:=⟨⟨[95,108,97,119,95,110,117,109,98,101,114]⟩⟩
noncomputable def z95:Str:=⟨⟨[95,108,97,119,95,119,111,114,100]⟩⟩
noncomputable def z96:Str:=⟨⟨[48,49,50,51,52,53,54,55,56,57]⟩⟩
noncomputable def z97:Str:=⟨⟨[95,108,97,119,95,114,111,119]⟩⟩
noncomputable def z98:Str:=⟨⟨[95,108,97,119,95,112,97,105,114]⟩⟩
noncomputable def z99:Str:=⟨⟨[110,117,109,98,101,114,95,111,102]⟩⟩
noncomputable def zr:Str:=⟨⟨[119,111,114,100]⟩⟩
noncomputable def AM:Str:=⟨⟨[109,111,115,116]⟩⟩
noncomputable def AL:Str:=⟨⟨[102,105,103,117,114,101,115]⟩⟩
noncomputable def BX:Str:=⟨⟨[110,111,32,110,117,109,98,101,114]⟩⟩
noncomputable def AK:Str:=⟨⟨[115,105,103,110]⟩⟩
noncomputable def zq:Str:=⟨⟨[116,101,120,116]⟩⟩
noncomputable def AJ:Str:=⟨⟨[114,111,119,115]⟩⟩
noncomputable def BW:Str:=⟨⟨[110,111,32,98,111,117,110,100]⟩⟩
noncomputable def AI:Str:=⟨⟨[115,116,111,114,101]⟩⟩
noncomputable def AH:Str:=⟨⟨[114,111,119]⟩⟩
noncomputable def AG:Str:=⟨⟨[119,111,114,100,115]⟩⟩
noncomputable def AF:Str:=⟨⟨[112,97,114,116,115]⟩⟩
noncomputable def BV:Str:=⟨⟨[110,111,32,116,104,105,110,103]⟩⟩
noncomputable def oW:Str:=⟨⟨[110,97,109,101]⟩⟩
noncomputable def BU:Str:=⟨⟨[110,111,32,110,97,109,101]⟩⟩
noncomputable def ua:Str:=⟨⟨[112,117,116]⟩⟩
noncomputable def rG:Str:=⟨⟨[119,114,105,116,116,101,110]⟩⟩
noncomputable def BS:Str:=⟨⟨[110,111,116,32,119,114,105,116,116,101,110,32,115,111]⟩⟩
noncomputable def oV:Str:=⟨⟨[95,95,110,97,109,101,95,95]⟩⟩
noncomputable def lr:Str:=⟨⟨[108,97,119,95,117,102,48,53,48,48,50,48,95,49,50]⟩⟩
noncomputable def BR:Str:=⟨⟨[98,111,111,108]⟩⟩
noncomputable def ka:Str:=⟨⟨[115,112,108,105,116,114,111,111,109,115,46,115,116,111,114,101,115]⟩⟩
noncomputable def tZ:Str:=⟨⟨[95,95,105,110,105,116,95,95]⟩⟩
noncomputable def oO:Str:=⟨⟨[115,101,108,102]⟩⟩
noncomputable def AE:Str:=⟨⟨[104,101,108,100]⟩⟩
noncomputable def AD:Str:=⟨⟨[118,97,108,117,101]⟩⟩
noncomputable def nV:Str:=⟨⟨[110,101,101,100,95,110,97,109,101]⟩⟩
noncomputable def AC:Str:=⟨⟨[98,101,102,111,114,101]⟩⟩
noncomputable def nU:Str:=⟨⟨[118,97,108,117,101,95,105,110]⟩⟩
noncomputable def nS:Str:=⟨⟨[119,105,116,104,95,116,104,105,110,103]⟩⟩
noncomputable def tY:Str:=⟨⟨[116,97,107,101]⟩⟩
noncomputable def jZ:Str:=⟨⟨[95,119,97,108,108]⟩⟩
noncomputable def tX:Str:=⟨⟨[102,105,110,100]⟩⟩
noncomputable def tW:Str:=⟨⟨[108,111,111,107]⟩⟩
noncomputable def tV:Str:=⟨⟨[115,105,122,101]⟩⟩
noncomputable def tU:Str:=⟨⟨[100,101,112,116,104]⟩⟩
noncomputable def tT:Str:=⟨⟨[98,111,97,114,100]⟩⟩
noncomputable def tS:Str:=⟨⟨[114,111,111,109,115]⟩⟩
noncomputable def oN:Str:=⟨⟨[114,111,111,109,115,95,102,111,114]⟩⟩
noncomputable def BQ:Str:=⟨⟨[108,105,115,116]⟩⟩
noncomputable def xe:Str:=⟨⟨[115,112,108,105,116,114,111,111,109,115,46,110,111,116,101,115]⟩⟩
noncomputable def BP:Str:=⟨⟨[114,111,111,109]⟩⟩
noncomputable def AB:Str:=⟨⟨[116,104,105,110,103]⟩⟩
noncomputable def tR:Str:=⟨⟨[115,112,108,105,116,114,111,111,109,115,46,114,111,111,109,115]⟩⟩
noncomputable def BO:Str:=⟨⟨[97,104,101,97,100]⟩⟩
noncomputable def oM:Str:=⟨⟨[112,97,114,116,101,100]⟩⟩
noncomputable def BM:Str:=⟨⟨[98,105,116,115]⟩⟩
noncomputable def BL:Str:=⟨⟨[97,116]⟩⟩
noncomputable def BK:Str:=⟨⟨[102,105,114,115,116]⟩⟩
noncomputable def nR:Str:=⟨⟨[115,105,103,110,115]⟩⟩
noncomputable def BJ:Str:=⟨⟨[108,97,115,116]⟩⟩
noncomputable def BI:Str:=⟨⟨[119,97,105,116,105,110,103]⟩⟩
noncomputable def BH:Str:=⟨⟨[102,111,117,110,100]⟩⟩
noncomputable def BG:Str:=⟨⟨[112,111,112]⟩⟩
noncomputable def BF:Str:=⟨⟨[98,111,116,104]⟩⟩
noncomputable def tQ:Str:=⟨⟨[83,73,71,78,83]⟩⟩
noncomputable def nQ:Str:=⟨⟨[109,105,120,101,100]⟩⟩
noncomputable def AA:Str:=⟨⟨[110,117,109,98,101,114]⟩⟩
noncomputable def Az:Str:=⟨⟨[112,108,97,99,101]⟩⟩
noncomputable def xd:Str:=⟨⟨[115,112,108,105,116,114,111,111,109,115,46,109,105,120,105,110,103]⟩⟩
noncomputable def Ay:Str:=⟨⟨[107]⟩⟩
noncomputable def im:Str:=⟨⟨[115,112,108,105,116,114,111,111,109,115,46,101,114,114,111,114,115]⟩⟩
noncomputable def aQ:Str:=⟨⟨[47,99,108,97,105,109,47,99,117,116,46,112,121]⟩⟩
noncomputable def prog:Program:=uW z0 z1 z2 z3 z4 z5 z6 z7 z8 z9 z10 z11 z12 z13 z14 z15 z16 z17 z18 z19 z20 z21 z22 z23 z24 z25 z26 z27 z28 z29 z30 z31 z32 z33 z34 z35 z36 z37 z38 z39 z40 z41 z42 z43 z44 z45 z46 z47 z48 z49 z50 z51 z52 z53 z54 z55 z56 z57 z58 z59 z60 z61 z62 z63 z64 z65 z66 z67 z68 z69 z70 z71 z72 z73 z74 z75 z76 z77 z78 z79 z80 z81 z82 z83 z84 z85 z86 z87 z88 z89 z90 z91 z92 z93 z94 z95 z96 z97 z98 z99 zr AM AL BX AK zq AJ BW AI AH AG AF BV oW BU ua rG BS oV lr BR ka tZ oO AE AD nV AC nU nS tY jZ tX tW tV tU tT tS oN BQ xe BP AB tR BO oM BM BL BK nR BJ BI BH BG BF tQ nQ AA Az xd Ay im aQ
theorem uV:PySem.Challenge.pw_uf050020_12=prog:=progG_ok.h.trans (congr (congr (congr (congr (congr (congr (congr (congr (congr (congr (congr (congr (congr (congr (congr (congr (congr (congr (congr (congr (congr (congr (congr (congr (congr (congr (congr (congr (congr (congr (congr (congr (congr (congr (congr (congr (congr (congr (congr (congr (congr (congr (congr (congr (congr (congr (congr (congr (congr (congr (congr (congr (congr (congr (congr (congr (congr (congr (congr (congr (congr (congr (congr (congr (congr (congr (congr (congr (congr (congr (congr (congr (congr (congr (congr (congr (congr (congr (congr (congr (congr (congr (congr (congr (congr (congr (congr (congr (congr (congr (congr (congr (congr (congr (congr (congr (congr (congr (congr (congr (congr (congr (congr (congr (congr (congr (congr (congr (congr (congr (congr (congr (congr (congr (congr (congr (congr (congr (congr (congr (congr (congr (congr (congr (congr (congr (congr (congr (congr (congr (congr (congr (congr (congr (congr (congr (congr (congr (congr (congr (congr (congr (congr (congr (congr (congr (congr (congr (congr (congr (congr (congr (congr (congr (congr (congr (congr (congr (congr (congr (congr (congr (congrArg uW (oL ['_','l','a','w','_','o','d','d']:_=z0)) (oL ['_','l','a','w','_','c','e','l','l']:_=z1)) (oL ['_','l','a','w','_','s','o','m','e']:_=z2)) (oL []:_=z3)) (oL ['b','o','u','n','d',' ','1']:_=z4)) (oL ['b','o','u','n','d',' ','1','\n']:_=z5)) (oL ['b','o','u','n','d',' ','1','\n',':']:_=z6)) (oL ['b','o','u','n','d',' ','6','4','\n',':',' ','0','=','0',' ','2','5','5','=','-','1']:_=z7)) (oL ['b','o','u','n','d',' ','1','\n',':','\n']:_=z8)) (oL [' ','b','o','u','n','d',' ','1','\n',':']:_=z9)) (oL ['b','o','u','n','d',' ','1','\n',':',' ','0','=','0',' ','0','=','0']:_=z10)) (oL ['b','o','u','n','d',' ','2','\n',':',' ','1','=','2',' ','0','=','3']:_=z11)) (oL ['b','o','u','n','d',' ','6','5','\n',':']:_=z12)) (oL ['b','o','u','n','d',' ','0','\n',':']:_=z13)) (oL ['b','o','u','n','d',' ','0','1','\n',':']:_=z14)) (oL ['B','o','u','n','d',' ','1','\n',':']:_=z15)) (oL ['b','o','u','n','d',' ','3','\n',':',' ','7','=']:_=z16)) (oL ['9']:_=z17)) (oL ['b','o','u','n','d',' ','3','\n',':',' ','7','=','-','0']:_=z18)) (oL ['b','o','u','n','d',' ','3','\n',':',' ','7','=','+','1']:_=z19)) (oL ['a','p','p','e','n','d']:_=z20)) (oL ['b','o','u','n','d',' ','3','\n',':',' ','-']:_=z21)) (oL ['0','=','5']:_=z22)) (oL ['_','l','a','w','_','c','h','a','n','g','e','d']:_=z23)) (oL ['_','l','a','w','_','t','e','x','t','_','h','e','r','e']:_=z24)) (oL ['_','l','a','w','_','o','t','h','e','r']:_=z25)) (oL ['_','l','a','w','_','a','t']:_=z26)) (oL ['l','e','n']:_=z27)) (oL ['!','"','#','$','&','\'','(',')','*',',','.','/',';','<','>','?','@','A','B','C','D','E','F','G','H','I','J','K','L','M','N','O','P','Q','R','S','T','U','V','W','X','Y','Z','[','\\',']','^','_','`','a','b','c','d','e','f','g','h','i','j','k','l','m','n','o','p','q','r','s','t','u','v','w','x','y','z','{','|','}','~','	']:_=z28)) (oL ['_','l','a','w','_','s','i','g','n']:_=z29)) (oL ['0','1','2','3','4','5','6','7','8','9','=','-',':',' ','\n','b','d','+','x']:_=z30)) (oL ['_','l','a','w','_','r','o','w','s']:_=z31)) (oL ['s','p','l','i','t']:_=z32)) (oL ['\n']:_=z33)) (oL ['_','l','a','w','_','f','i','r','s','t']:_=z34)) (oL ['_','l','a','w','_','s','e','c','o','n','d']:_=z35)) (oL ['_','l','a','w','_','k','e','p','t']:_=z36)) (oL ['j','o','i','n']:_=z37)) (oL ['_','l','a','w','_','f','i','g','u','r','e','s']:_=z38)) (oL ['-']:_=z39)) (oL ['b','o','u','n','d',' ','3','\n',':',' ']:_=z40)) (oL ['s','t','r']:_=z41)) (oL ['=']:_=z42)) (oL ['_','l','a','w','_','a','l','o','n','e']:_=z43)) (oL ['_','l','a','w','_','e']:_=z44)) (oL ['_','l','a','w','_','w','h','i','c','h']:_=z45)) (oL ['_','l','a','w','_','k','i','n','d','s']:_=z46)) (oL ['i','s','i','n','s','t','a','n','c','e']:_=z47)) (oL ['B','a','d','N','a','m','e']:_=z48)) (oL ['B','a','d','B','o','u','n','d']:_=z49)) (oL ['N','o','T','h','i','n','g']:_=z50)) (oL ['N','o','S','t','o','r','e']:_=z51)) (oL ['V','a','l','u','e','E','r','r','o','r']:_=z52)) (oL ['_','l','a','w','_','k']:_=z53)) (oL ['r','a','n','g','e']:_=z54)) (oL ['.','0']:_=z55)) (oL ['f','a','s','t']:_=z56)) (oL ['_','l','a','w','_','r','e','f','u','s','e','d']:_=z57)) (oL ['_','l','a','w','_','t','o','l','d']:_=z58)) (oL ['r','e','a','d']:_=z59)) (oL ['R','o','o','m','E','r','r','o','r']:_=z60)) (oL ['i','n','t']:_=z61)) (oL ['l','a','w']:_=z62)) (oL ['_','l','a','w','_','s','c','r','i','p','t']:_=z63)) (oL ['_','l','a','w','_','b','o','u','n','d']:_=z64)) (oL ['_','l','a','w','_','c','e','l','l','_','a','t']:_=z65)) (oL ['_','l','a','w','_','f','r','a','m','e']:_=z66)) (oL ['_','l','a','w','_','m','a','n','y']:_=z67)) (oL ['_','l','a','w','_','p','l','a','i','n']:_=z68)) (oL ['_','l','a','w','_','m','o','r','e']:_=z69)) (oL ['_','l','a','w','_','n','a','m','e']:_=z70)) (oL ['_','l','a','w','_','t','e','x','t']:_=z71)) (oL ['_','l','a','w','_','d','u','e']:_=z72)) (oL ['_','l','a','w','_','r','e','a','d']:_=z73)) (oL ['_','l','a','w','_','f','o','u','n','d']:_=z74)) (oL ['S','t','o','r','e']:_=z75)) (oL ['_','l','a','w','_','w','h','o','l','e']:_=z76)) (oL ['b','o','u','n','d']:_=z77)) (oL ['t','h','i','n','g','s']:_=z78)) (oL ['_','l','a','w','_','s','i','g','n','s']:_=z79)) (oL ['_','l','a','w','_','l','e','f','t']:_=z80)) (oL ['_','l','a','w','_','w','o','r','t','h']:_=z81)) (oL ['b','o','u','n','d',' ']:_=z82)) (oL ['_','l','a','w','_','w','a','i','t','i','n','g']:_=z83)) (oL ['_','l','a','w','_','o','n','e']:_=z84)) (oL ['s','o','r','t','e','d']:_=z85)) (oL ['_','l','a','w','_','b','i','t','s']:_=z86)) (oL ['_','l','a','w','_','i','n','s','i','d','e']:_=z87)) (oL [' ']:_=z88)) (oL [':']:_=z89)) (oL ['_','l','a','w','_','l','o','w']:_=z90)) (oL ['0']:_=z91)) (oL ['_','l','a','w','_','h','i','g','h']:_=z92)) (oL ['1']:_=z93)) (oL ['_','l','a','w','_','n','u','m','b','e','r']:_=z94)) (oL ['_','l','a','w','_','w','o','r','d']:_=z95)) (oL ['0','1','2','3','4','5','6','7','8','9']:_=z96)) (oL ['_','l','a','w','_','r','o','w']:_=z97)) (oL ['_','l','a','w','_','p','a','i','r']:_=z98)) (oL ['n','u','m','b','e','r','_','o','f']:_=z99)) (oL ['w','o','r','d']:_=zr)) (oL ['m','o','s','t']:_=AM)) (oL ['f','i','g','u','r','e','s']:_=AL)) (oL ['n','o',' ','n','u','m','b','e','r']:_=BX)) (oL ['s','i','g','n']:_=AK)) (oL ['t','e','x','t']:_=zq)) (oL ['r','o','w','s']:_=AJ)) (oL ['n','o',' ','b','o','u','n','d']:_=BW)) (oL ['s','t','o','r','e']:_=AI)) (oL ['r','o','w']:_=AH)) (oL ['w','o','r','d','s']:_=AG)) (oL ['p','a','r','t','s']:_=AF)) (oL ['n','o',' ','t','h','i','n','g']:_=BV)) (oL ['n','a','m','e']:_=oW)) (oL ['n','o',' ','n','a','m','e']:_=BU)) (oL ['p','u','t']:_=ua)) (oL ['w','r','i','t','t','e','n']:_=rG)) (oL ['n','o','t',' ','w','r','i','t','t','e','n',' ','s','o']:_=BS)) (oL ['_','_','n','a','m','e','_','_']:_=oV)) (oL ['l','a','w','_','u','f','0','5','0','0','2','0','_','1','2']:_=lr)) (oL ['b','o','o','l']:_=BR)) (oL ['s','p','l','i','t','r','o','o','m','s','.','s','t','o','r','e','s']:_=ka)) (oL ['_','_','i','n','i','t','_','_']:_=tZ)) (oL ['s','e','l','f']:_=oO)) (oL ['h','e','l','d']:_=AE)) (oL ['v','a','l','u','e']:_=AD)) (oL ['n','e','e','d','_','n','a','m','e']:_=nV)) (oL ['b','e','f','o','r','e']:_=AC)) (oL ['v','a','l','u','e','_','i','n']:_=nU)) (oL ['w','i','t','h','_','t','h','i','n','g']:_=nS)) (oL ['t','a','k','e']:_=tY)) (oL ['_','w','a','l','l']:_=jZ)) (oL ['f','i','n','d']:_=tX)) (oL ['l','o','o','k']:_=tW)) (oL ['s','i','z','e']:_=tV)) (oL ['d','e','p','t','h']:_=tU)) (oL ['b','o','a','r','d']:_=tT)) (oL ['r','o','o','m','s']:_=tS)) (oL ['r','o','o','m','s','_','f','o','r']:_=oN)) (oL ['l','i','s','t']:_=BQ)) (oL ['s','p','l','i','t','r','o','o','m','s','.','n','o','t','e','s']:_=xe)) (oL ['r','o','o','m']:_=BP)) (oL ['t','h','i','n','g']:_=AB)) (oL ['s','p','l','i','t','r','o','o','m','s','.','r','o','o','m','s']:_=tR)) (oL ['a','h','e','a','d']:_=BO)) (oL ['p','a','r','t','e','d']:_=oM)) (oL ['b','i','t','s']:_=BM)) (oL ['a','t']:_=BL)) (oL ['f','i','r','s','t']:_=BK)) (oL ['s','i','g','n','s']:_=nR)) (oL ['l','a','s','t']:_=BJ)) (oL ['w','a','i','t','i','n','g']:_=BI)) (oL ['f','o','u','n','d']:_=BH)) (oL ['p','o','p']:_=BG)) (oL ['b','o','t','h']:_=BF)) (oL ['S','I','G','N','S']:_=tQ)) (oL ['m','i','x','e','d']:_=nQ)) (oL ['n','u','m','b','e','r']:_=AA)) (oL ['p','l','a','c','e']:_=Az)) (oL ['s','p','l','i','t','r','o','o','m','s','.','m','i','x','i','n','g']:_=xd)) (oL ['k']:_=Ay)) (oL ['s','p','l','i','t','r','o','o','m','s','.','e','r','r','o','r','s']:_=im)) (oL ['/','c','l','a','i','m','/','c','u','t','.','p','y']:_=aQ))
noncomputable def lawT:OpenLaw:={ prog:=prog,name:=z62,about:=[z59],foot:=11,most:=some 63,bound:=none,writes:=false }
theorem yP:PySem.Challenge.rw_uf050020_12=lawT:=by
 unfold PySem.Challenge.rw_uf050020_12 lawT
 rw [uV,(Fast.ofString_ofList ['l','a','w']:Str.ofString "law" =z62),(Fast.ofString_ofList ['r','e','a','d']:Str.ofString "read" =z59)]
 rfl
noncomputable def y0:String:=SL.s2766695959194262286x5
noncomputable def y1:String:=SL.s5856160107412720595x4
noncomputable def y2:String:=SL.s7174869446012820540x8
noncomputable def y3:String:=SL.s14018661285674007319x4
noncomputable def y4:String:=SL.s17162191345867700912x4
noncomputable def y5:String:=SL.s6070975301684473832x10
noncomputable def dE (P:Params) (s:Str) (t:Nat) (v:Value):DictEntry:=⟨PyData.keyHash P s,.str s t,v⟩
noncomputable def lf (o:Obj):W.BT:=.node o .nil .nil
noncomputable def BZ:Pos:=⟨0,0,0,0⟩
noncomputable def st (i:Nat):Stmt:=(prog.main.body[i]?).getD (.Pass BZ)
noncomputable def fA (s:Stmt):Arguments:=match s with
 | .FunctionDef _ a _ _ _ _ _ _ _ _=>a
 | _=>⟨[],[],none,[],[],none,[]⟩
noncomputable def fB (s:Stmt):List Stmt:=match s with
 | .FunctionDef _ _ b _ _ _ _ _ _ _=>b
 | .ClassDef _ _ _ b _ _ _ _ _ _ _=>b
 | _=>[]
noncomputable def fS (s:Stmt):Scope:=match s with
 | .FunctionDef _ _ _ _ _ _ s _ _ _=>s
 | _=>prog.main.scope
noncomputable def stC (i j:Nat):Stmt:=((fB (st i))[j]?).getD (.Pass BZ)
noncomputable def q0:Str:=⟨⟨[95,95,97,110,110,111,116,97,116,105,111,110,115,95,95]⟩⟩
noncomputable def q3:Str:=⟨⟨[95,95,100,111,99,95,95]⟩⟩
noncomputable def q4:Str:=⟨⟨[95,95,112,97,99,107,97,103,101,95,95]⟩⟩
noncomputable def q5:Str:=⟨⟨[95,95,108,111,97,100,101,114,95,95]⟩⟩
noncomputable def q6:Str:=⟨⟨[95,95,115,112,101,99,95,95]⟩⟩
noncomputable def q7:Str:=⟨⟨[95,95,98,117,105,108,116,105,110,115,95,95]⟩⟩
noncomputable def q8:Str:=⟨⟨[95,95,102,105,108,101,95,95]⟩⟩
noncomputable def q10:Str:=⟨⟨[95,95,99,97,99,104,101,100,95,95]⟩⟩
noncomputable def q23:Str:=⟨⟨[60,109,111,100,117,108,101,62]⟩⟩
noncomputable def q31:Str:=⟨⟨[83,116,111,114,101,46,116,97,107,101]⟩⟩
noncomputable def q34:Str:=⟨⟨[83,116,111,114,101,46,95,95,105,110,105,116,95,95]⟩⟩
noncomputable def q37:Str:=⟨⟨[83,116,111,114,101,46,116,104,105,110,103,115]⟩⟩
noncomputable def q40:Str:=⟨⟨[83,116,111,114,101,46,100,101,112,116,104]⟩⟩
noncomputable def q43:Str:=⟨⟨[83,116,111,114,101,46,98,111,97,114,100]⟩⟩
noncomputable def q44:Str:=⟨⟨[95,95,100,105,99,116,95,95]⟩⟩
noncomputable def q48:Str:=⟨⟨[95,95,109,111,100,117,108,101,95,95]⟩⟩
noncomputable def q49:Str:=⟨⟨[95,95,113,117,97,108,110,97,109,101,95,95]⟩⟩
noncomputable def q50:Str:=⟨⟨[95,95,102,105,114,115,116,108,105,110,101,110,111,95,95]⟩⟩
noncomputable def q51:Str:=⟨⟨[95,95,115,116,97,116,105,99,95,97,116,116,114,105,98,117,116,101,115,95,95]⟩⟩
noncomputable def q56:Str:=⟨⟨[83,116,111,114,101,46,114,111,111,109,115]⟩⟩
noncomputable def q59:Str:=⟨⟨[83,116,111,114,101,46,108,111,111,107]⟩⟩
noncomputable def q61:Str:=⟨⟨[95,95,119,101,97,107,114,101,102,95,95]⟩⟩
noncomputable def q82:Str:=⟨⟨[95,95,109,97,105,110,95,95]⟩⟩
noncomputable def q86:Str:=⟨⟨[83,116,111,114,101,46,115,105,122,101]⟩⟩
noncomputable def q88:Str:=⟨⟨[83,116,111,114,101,46,112,117,116]⟩⟩
noncomputable def q92:Str:=⟨⟨[83,116,111,114,101,46,102,105,110,100]⟩⟩
abbrev OP:=Params→Obj
noncomputable def o43:OP:=fun P=>⟨(.type y0),.none,(.seq ⟨[]⟩ 0),⟨[]⟩⟩
noncomputable def o44:OP:=fun P=>⟨.none,.none,(.fields ⟨[]⟩),⟨[]⟩⟩
noncomputable def o45:OP:=fun P=>⟨(.type y1),.none,(.fields ⟨[(.str q23 182),(.str q23 183),(.str aQ 184),(.int 1 0),(.int 0 0),(.int 0 0),(.int 0 0),(.int 0 0),(.ref 11),(.bool .false),(.int 181 0),(.ref 12),.none,.none,.none,.none,(.int 185 0),(.int 1 0),(.str aQ 186)]⟩),⟨[]⟩⟩
noncomputable def o46:OP:=fun P=>⟨(.type SL.s658472552662922059x5),.none,.plain,⟨[(.some (.ref 13)),(.some (.ref 3)),(.some (.ref 3)),.none,(.some (.str q82 164)),.none,(.some (.ref 0))]⟩⟩
noncomputable def o49:OP:=fun P=>⟨(.type y3),.none,(.dict ⟨[dE P oV 165 (.str im 194),dE P q3 166 .none,dE P q4 167 .none,dE P q5 168 (.builtin SL.s7097527257260152453x26),dE P q6 169 .none,dE P q0 170 (.ref 6),dE P q7 171 (.ref 4),dE P q8 173 (.str aQ 172),dE P q10 174 .none,dE P jZ 193 (.ref 21),dE P z60 213 (.ref 31)]⟩ 11),⟨[]⟩⟩
noncomputable def o50:OP:=fun P=>⟨.none,.none,(.fields ⟨[(.int 1 0),(.int 0 0),(.ref 20),(.int 5 0),(.int 0 0),(.ref 27)]⟩),⟨[]⟩⟩
noncomputable def o53:OP:=fun P=>⟨(.type y0),.none,(.seq ⟨[(.str Ay 190)]⟩ 0),⟨[]⟩⟩
noncomputable def o55:OP:=fun P=>⟨.none,.none,(.func ⟨jZ,jZ,(fA (st 0)),(.stmts (fB (st 0))),(fS (st 0)),0,[],.none,.none,.none,.none,.none,.none,.none,0⟩),⟨[]⟩⟩
noncomputable def o56:OP:=fun P=>⟨(.type y1),.none,(.fields ⟨[(.str jZ 187),(.str jZ 188),(.str aQ 189),(.int 1 0),(.int 1 0),(.int 0 0),(.int 0 0),(.int 3 0),(.ref 15),(.bool .true),(.int 181 0),(.ref 16),.none,(.ref 17),(.ref 18),(.ref 19),(.int 191 0),(.int 1 0),(.str aQ 192)]⟩),⟨[]⟩⟩
noncomputable def o57:OP:=fun P=>⟨(.type y2),.none,(.func ⟨jZ,jZ,(fA (st 0)),(.stmts (fB (st 0))),(fS (st 0)),3,[],.none,.none,.none,(.str q82 164),.none,(.ref 20),.none,0⟩),⟨[]⟩⟩
noncomputable def o58:OP:=fun P=>⟨(.type y0),.none,(.seq ⟨[(.type y5)]⟩ 0),⟨[]⟩⟩
noncomputable def o59:OP:=fun P=>⟨(.type SL.s11030030927630378310x26),.none,(.fields ⟨[(.builtin SL.s10062305145149207511x16),(.type y4)]⟩),⟨[]⟩⟩
noncomputable def o60:OP:=fun P=>⟨(.type y3),.none,(.dict ⟨[dE P q48 203 (.str im 194),dE P q49 205 (.str z60 204),dE P q50 207 (.int 5 206),dE P q51 208 (.ref 29)]⟩ 4),⟨[]⟩⟩
noncomputable def o63:OP:=fun P=>⟨(.type y1),.none,(.fields ⟨[(.str z60 198),(.str z60 199),(.str aQ 200),(.int 5 0),(.int 0 0),(.int 0 0),(.int 0 0),(.int 0 0),(.ref 25),(.bool .false),(.int 181 0),(.ref 26),.none,.none,.none,.none,(.int 201 0),(.int 5 0),(.str aQ 202)]⟩),⟨[]⟩⟩
noncomputable def o64:OP:=fun P=>⟨(.type SL.s658472552662922059x5),.none,.plain,⟨[(.some (.ref 27)),(.some (.ref 3)),(.some (.ref 24)),.none,(.some (.str im 194)),.none,(.some (.ref 0))]⟩⟩
noncomputable def o66:OP:=fun P=>⟨(.type y3),.none,(.dict ⟨[dE P q48 203 (.str im 194),dE P q50 207 (.int 5 206),dE P q51 208 (.ref 29),dE P q61 210 (.ref 32),dE P q3 211 .none]⟩ 3),⟨[]⟩⟩
noncomputable def o67:OP:=fun P=>⟨(.type y4),.none,(.cls ⟨z60,[(.type y5)],[(.ref 31),(.type y5),(.type SL.s5946037652744460706x9),(.type SL.s4278001404047624695x13),(.type SL.s2742458400755230247x6)],30,z60,.true,[],[],.false,.none,.false⟩),⟨[(.some (.ref 22)),.none,(.some (.str z60 196)),(.some (.str z60 204)),(.some (.builtin SL.s4209523147560561109x18)),(.some (.bool .true))]⟩⟩
noncomputable def o68:OP:=fun P=>⟨(.type SL.s14755015743595814543x17),.none,(.fields ⟨[(.str q61 209),(.ref 31),(.builtin SL.s10220274742760427390x26),.none]⟩),⟨[]⟩⟩
noncomputable def o69:OP:=fun P=>⟨(.type SL.s4290257624100764138x5),.none,(.fields ⟨[(.ref 31),(.ref 31),(.ref 31)]⟩),⟨[]⟩⟩
noncomputable def o70:OP:=fun P=>⟨(.type SL.s11030030927630378310x26),.none,(.fields ⟨[(.builtin SL.s4860613602091757760x24),(.ref 31)]⟩),⟨[]⟩⟩
noncomputable def o71:OP:=fun P=>⟨(.type y3),.none,(.dict ⟨[dE P oV 165 (.str im 194),dE P q3 166 .none,dE P q4 167 .none,dE P q5 168 (.builtin SL.s7097527257260152453x26),dE P q6 169 .none,dE P q0 170 (.ref 6),dE P q7 171 (.ref 4),dE P q8 173 (.str aQ 172),dE P q10 174 .none,dE P jZ 193 (.ref 21),dE P z60 213 (.ref 31),dE P z48 229 (.ref 44)]⟩ 12),⟨[]⟩⟩
noncomputable def o72:OP:=fun P=>⟨.none,.none,(.fields ⟨[(.int 1 0),(.int 0 0),(.ref 20),(.int 5 0),(.int 0 0),(.ref 27),(.int 7 0),(.int 0 0),(.ref 40)]⟩),⟨[]⟩⟩
noncomputable def o73:OP:=fun P=>⟨(.type y4),.none,(.cls ⟨z60,[(.type y5)],[(.ref 31),(.type y5),(.type SL.s5946037652744460706x9),(.type SL.s4278001404047624695x13),(.type SL.s2742458400755230247x6)],30,z60,.true,[],[(.ref 44)],.false,.none,.false⟩),⟨[(.some (.ref 22)),.none,(.some (.str z60 196)),(.some (.str z60 204)),(.some (.builtin SL.s4209523147560561109x18)),(.some (.bool .true))]⟩⟩
noncomputable def o74:OP:=fun P=>⟨(.type y0),.none,(.seq ⟨[(.ref 31)]⟩ 0),⟨[]⟩⟩
noncomputable def o76:OP:=fun P=>⟨(.type y3),.none,(.dict ⟨[dE P q48 221 (.str im 194),dE P q49 223 (.str z48 222),dE P q50 225 (.int 7 224),dE P q51 226 (.ref 42)]⟩ 4),⟨[]⟩⟩
noncomputable def o79:OP:=fun P=>⟨(.type y1),.none,(.fields ⟨[(.str z48 216),(.str z48 217),(.str aQ 218),(.int 7 0),(.int 0 0),(.int 0 0),(.int 0 0),(.int 0 0),(.ref 38),(.bool .false),(.int 181 0),(.ref 39),.none,.none,.none,.none,(.int 219 0),(.int 7 0),(.str aQ 220)]⟩),⟨[]⟩⟩
noncomputable def o80:OP:=fun P=>⟨(.type SL.s658472552662922059x5),.none,.plain,⟨[(.some (.ref 40)),(.some (.ref 3)),(.some (.ref 37)),.none,(.some (.str im 194)),.none,(.some (.ref 0))]⟩⟩
noncomputable def o82:OP:=fun P=>⟨(.type y3),.none,(.dict ⟨[dE P q48 221 (.str im 194),dE P q50 225 (.int 7 224),dE P q51 226 (.ref 42),dE P q3 227 .none]⟩ 2),⟨[]⟩⟩
noncomputable def o83:OP:=fun P=>⟨(.type y4),.none,(.cls ⟨z48,[(.ref 31)],[(.ref 44),(.ref 31),(.type y5),(.type SL.s5946037652744460706x9),(.type SL.s4278001404047624695x13),(.type SL.s2742458400755230247x6)],43,z48,.true,[],[],.false,.none,.false⟩),⟨[(.some (.ref 35)),.none,(.some (.str z48 214)),(.some (.str z48 222)),(.some (.builtin SL.s4209523147560561109x18)),(.some (.bool .true))]⟩⟩
noncomputable def o84:OP:=fun P=>⟨(.type SL.s4290257624100764138x5),.none,(.fields ⟨[(.ref 44),(.ref 44),(.ref 44)]⟩),⟨[]⟩⟩
noncomputable def o85:OP:=fun P=>⟨(.type SL.s11030030927630378310x26),.none,(.fields ⟨[(.builtin SL.s4860613602091757760x24),(.ref 44)]⟩),⟨[]⟩⟩
noncomputable def o86:OP:=fun P=>⟨(.type y3),.none,(.dict ⟨[dE P oV 165 (.str im 194),dE P q3 166 .none,dE P q4 167 .none,dE P q5 168 (.builtin SL.s7097527257260152453x26),dE P q6 169 .none,dE P q0 170 (.ref 6),dE P q7 171 (.ref 4),dE P q8 173 (.str aQ 172),dE P q10 174 .none,dE P jZ 193 (.ref 21),dE P z60 213 (.ref 31),dE P z48 229 (.ref 44),dE P z49 245 (.ref 56)]⟩ 13),⟨[]⟩⟩
noncomputable def o87:OP:=fun P=>⟨.none,.none,(.fields ⟨[(.int 1 0),(.int 0 0),(.ref 20),(.int 5 0),(.int 0 0),(.ref 27),(.int 7 0),(.int 0 0),(.ref 40),(.int 9 0),(.int 0 0),(.ref 52)]⟩),⟨[]⟩⟩
noncomputable def o88:OP:=fun P=>⟨(.type y4),.none,(.cls ⟨z60,[(.type y5)],[(.ref 31),(.type y5),(.type SL.s5946037652744460706x9),(.type SL.s4278001404047624695x13),(.type SL.s2742458400755230247x6)],30,z60,.true,[],[(.ref 44),(.ref 56)],.false,.none,.false⟩),⟨[(.some (.ref 22)),.none,(.some (.str z60 196)),(.some (.str z60 204)),(.some (.builtin SL.s4209523147560561109x18)),(.some (.bool .true))]⟩⟩
noncomputable def o91:OP:=fun P=>⟨(.type y3),.none,(.dict ⟨[dE P q48 237 (.str im 194),dE P q49 239 (.str z49 238),dE P q50 241 (.int 9 240),dE P q51 242 (.ref 54)]⟩ 4),⟨[]⟩⟩
noncomputable def o94:OP:=fun P=>⟨(.type y1),.none,(.fields ⟨[(.str z49 232),(.str z49 233),(.str aQ 234),(.int 9 0),(.int 0 0),(.int 0 0),(.int 0 0),(.int 0 0),(.ref 50),(.bool .false),(.int 181 0),(.ref 51),.none,.none,.none,.none,(.int 235 0),(.int 9 0),(.str aQ 236)]⟩),⟨[]⟩⟩
noncomputable def o95:OP:=fun P=>⟨(.type SL.s658472552662922059x5),.none,.plain,⟨[(.some (.ref 52)),(.some (.ref 3)),(.some (.ref 49)),.none,(.some (.str im 194)),.none,(.some (.ref 0))]⟩⟩
noncomputable def o97:OP:=fun P=>⟨(.type y3),.none,(.dict ⟨[dE P q48 237 (.str im 194),dE P q50 241 (.int 9 240),dE P q51 242 (.ref 54),dE P q3 243 .none]⟩ 2),⟨[]⟩⟩
noncomputable def o98:OP:=fun P=>⟨(.type y4),.none,(.cls ⟨z49,[(.ref 31)],[(.ref 56),(.ref 31),(.type y5),(.type SL.s5946037652744460706x9),(.type SL.s4278001404047624695x13),(.type SL.s2742458400755230247x6)],55,z49,.true,[],[],.false,.none,.false⟩),⟨[(.some (.ref 47)),.none,(.some (.str z49 230)),(.some (.str z49 238)),(.some (.builtin SL.s4209523147560561109x18)),(.some (.bool .true))]⟩⟩
noncomputable def o99:OP:=fun P=>⟨(.type SL.s4290257624100764138x5),.none,(.fields ⟨[(.ref 56),(.ref 56),(.ref 56)]⟩),⟨[]⟩⟩
noncomputable def tm:OP:=fun P=>⟨(.type SL.s11030030927630378310x26),.none,(.fields ⟨[(.builtin SL.s4860613602091757760x24),(.ref 56)]⟩),⟨[]⟩⟩
noncomputable def Dd:OP:=fun P=>⟨(.type y3),.none,(.dict ⟨[dE P oV 165 (.str im 194),dE P q3 166 .none,dE P q4 167 .none,dE P q5 168 (.builtin SL.s7097527257260152453x26),dE P q6 169 .none,dE P q0 170 (.ref 6),dE P q7 171 (.ref 4),dE P q8 173 (.str aQ 172),dE P q10 174 .none,dE P jZ 193 (.ref 21),dE P z60 213 (.ref 31),dE P z48 229 (.ref 44),dE P z49 245 (.ref 56),dE P z50 261 (.ref 68)]⟩ 14),⟨[]⟩⟩
noncomputable def Dc:OP:=fun P=>⟨.none,.none,(.fields ⟨[(.int 1 0),(.int 0 0),(.ref 20),(.int 5 0),(.int 0 0),(.ref 27),(.int 7 0),(.int 0 0),(.ref 40),(.int 9 0),(.int 0 0),(.ref 52),(.int 11 0),(.int 0 0),(.ref 64)]⟩),⟨[]⟩⟩
noncomputable def Db:OP:=fun P=>⟨(.type y4),.none,(.cls ⟨z60,[(.type y5)],[(.ref 31),(.type y5),(.type SL.s5946037652744460706x9),(.type SL.s4278001404047624695x13),(.type SL.s2742458400755230247x6)],30,z60,.true,[],[(.ref 44),(.ref 56),(.ref 68)],.false,.none,.false⟩),⟨[(.some (.ref 22)),.none,(.some (.str z60 196)),(.some (.str z60 204)),(.some (.builtin SL.s4209523147560561109x18)),(.some (.bool .true))]⟩⟩
noncomputable def vI:OP:=fun P=>⟨(.type y3),.none,(.dict ⟨[dE P q48 253 (.str im 194),dE P q49 255 (.str z50 254),dE P q50 257 (.int 11 256),dE P q51 258 (.ref 66)]⟩ 4),⟨[]⟩⟩
noncomputable def vH:OP:=fun P=>⟨(.type y1),.none,(.fields ⟨[(.str z50 248),(.str z50 249),(.str aQ 250),(.int 11 0),(.int 0 0),(.int 0 0),(.int 0 0),(.int 0 0),(.ref 62),(.bool .false),(.int 181 0),(.ref 63),.none,.none,.none,.none,(.int 251 0),(.int 11 0),(.str aQ 252)]⟩),⟨[]⟩⟩
noncomputable def vG:OP:=fun P=>⟨(.type SL.s658472552662922059x5),.none,.plain,⟨[(.some (.ref 64)),(.some (.ref 3)),(.some (.ref 61)),.none,(.some (.str im 194)),.none,(.some (.ref 0))]⟩⟩
noncomputable def tl:OP:=fun P=>⟨(.type y3),.none,(.dict ⟨[dE P q48 253 (.str im 194),dE P q50 257 (.int 11 256),dE P q51 258 (.ref 66),dE P q3 259 .none]⟩ 2),⟨[]⟩⟩
noncomputable def tj:OP:=fun P=>⟨(.type y4),.none,(.cls ⟨z50,[(.ref 31)],[(.ref 68),(.ref 31),(.type y5),(.type SL.s5946037652744460706x9),(.type SL.s4278001404047624695x13),(.type SL.s2742458400755230247x6)],67,z50,.true,[],[],.false,.none,.false⟩),⟨[(.some (.ref 59)),.none,(.some (.str z50 246)),(.some (.str z50 254)),(.some (.builtin SL.s4209523147560561109x18)),(.some (.bool .true))]⟩⟩
noncomputable def vF:OP:=fun P=>⟨(.type SL.s4290257624100764138x5),.none,(.fields ⟨[(.ref 68),(.ref 68),(.ref 68)]⟩),⟨[]⟩⟩
noncomputable def vE:OP:=fun P=>⟨(.type SL.s11030030927630378310x26),.none,(.fields ⟨[(.builtin SL.s4860613602091757760x24),(.ref 68)]⟩),⟨[]⟩⟩
noncomputable def Da:OP:=fun P=>⟨(.type y3),.none,(.dict ⟨[dE P oV 165 (.str tR 306),dE P q3 166 .none,dE P q4 167 .none,dE P q5 168 (.builtin SL.s7097527257260152453x26),dE P q6 169 .none,dE P q0 170 (.ref 6),dE P q7 171 (.ref 4),dE P q8 173 (.str aQ 172),dE P q10 174 .none,dE P jZ 193 (.ref 21),dE P z60 213 (.ref 31),dE P z48 229 (.ref 44),dE P z49 245 (.ref 56),dE P z50 261 (.ref 68),dE P z51 277 (.ref 80),dE P tQ 281 (.int 8 280),dE P nV 288 (.ref 89),dE P nQ 295 (.ref 96),dE P nR 305 (.ref 103),dE P nS 313 (.ref 108),dE P nU 322 (.ref 115)]⟩ 21),⟨[]⟩⟩
noncomputable def CZ:OP:=fun P=>⟨.none,.none,(.fields ⟨[(.int 1 0),(.int 0 0),(.ref 20),(.int 5 0),(.int 0 0),(.ref 27),(.int 7 0),(.int 0 0),(.ref 40),(.int 9 0),(.int 0 0),(.ref 52),(.int 11 0),(.int 0 0),(.ref 64),(.int 13 0),(.int 0 0),(.ref 76),(.int 17 0),(.int 0 0),(.ref 88),(.int 20 0),(.int 0 0),(.ref 95),(.int 23 0),(.int 0 0),(.ref 102),(.int 31 0),(.int 0 0),(.ref 107),(.int 34 0),(.int 0 0),(.ref 114)]⟩),⟨[]⟩⟩
noncomputable def vD:OP:=fun P=>⟨(.type y4),.none,(.cls ⟨z60,[(.type y5)],[(.ref 31),(.type y5),(.type SL.s5946037652744460706x9),(.type SL.s4278001404047624695x13),(.type SL.s2742458400755230247x6)],30,z60,.true,[],[(.ref 44),(.ref 56),(.ref 68),(.ref 80)],.false,.none,.false⟩),⟨[(.some (.ref 22)),.none,(.some (.str z60 196)),(.some (.str z60 204)),(.some (.builtin SL.s4209523147560561109x18)),(.some (.bool .true))]⟩⟩
noncomputable def wY:OP:=fun P=>⟨(.type y3),.none,(.dict ⟨[dE P q48 269 (.str im 194),dE P q49 271 (.str z51 270),dE P q50 273 (.int 13 272),dE P q51 274 (.ref 78)]⟩ 4),⟨[]⟩⟩
noncomputable def wX:OP:=fun P=>⟨(.type y1),.none,(.fields ⟨[(.str z51 264),(.str z51 265),(.str aQ 266),(.int 13 0),(.int 0 0),(.int 0 0),(.int 0 0),(.int 0 0),(.ref 74),(.bool .false),(.int 181 0),(.ref 75),.none,.none,.none,.none,(.int 267 0),(.int 13 0),(.str aQ 268)]⟩),⟨[]⟩⟩
noncomputable def wW:OP:=fun P=>⟨(.type SL.s658472552662922059x5),.none,.plain,⟨[(.some (.ref 76)),(.some (.ref 3)),(.some (.ref 73)),.none,(.some (.str im 194)),.none,(.some (.ref 0))]⟩⟩
noncomputable def vC:OP:=fun P=>⟨(.type y3),.none,(.dict ⟨[dE P q48 269 (.str im 194),dE P q50 273 (.int 13 272),dE P q51 274 (.ref 78),dE P q3 275 .none]⟩ 2),⟨[]⟩⟩
noncomputable def vB:OP:=fun P=>⟨(.type y4),.none,(.cls ⟨z51,[(.ref 31)],[(.ref 80),(.ref 31),(.type y5),(.type SL.s5946037652744460706x9),(.type SL.s4278001404047624695x13),(.type SL.s2742458400755230247x6)],79,z51,.true,[],[],.false,.none,.false⟩),⟨[(.some (.ref 71)),.none,(.some (.str z51 262)),(.some (.str z51 270)),(.some (.builtin SL.s4209523147560561109x18)),(.some (.bool .true))]⟩⟩
noncomputable def wV:OP:=fun P=>⟨(.type SL.s4290257624100764138x5),.none,(.fields ⟨[(.ref 80),(.ref 80),(.ref 80)]⟩),⟨[]⟩⟩
noncomputable def wU:OP:=fun P=>⟨(.type SL.s11030030927630378310x26),.none,(.fields ⟨[(.builtin SL.s4860613602091757760x24),(.ref 80)]⟩),⟨[]⟩⟩
noncomputable def vA:OP:=fun P=>⟨(.type y0),.none,(.seq ⟨[(.str oW 285)]⟩ 0),⟨[]⟩⟩
noncomputable def wR:OP:=fun P=>⟨.none,.none,(.func ⟨nV,nV,(fA (st 9)),(.stmts (fB (st 9))),(fS (st 9)),0,[],.none,.none,.none,.none,.none,.none,.none,0⟩),⟨[]⟩⟩
noncomputable def vz:OP:=fun P=>⟨(.type y1),.none,(.fields ⟨[(.str nV 282),(.str nV 283),(.str aQ 284),(.int 17 0),(.int 1 0),(.int 0 0),(.int 0 0),(.int 3 0),(.ref 83),(.bool .true),(.int 181 0),(.ref 84),.none,(.ref 85),(.ref 86),(.ref 87),(.int 286 0),(.int 17 0),(.str aQ 287)]⟩),⟨[]⟩⟩
noncomputable def vy:OP:=fun P=>⟨(.type y2),.none,(.func ⟨nV,nV,(fA (st 9)),(.stmts (fB (st 9))),(fS (st 9)),3,[],.none,.none,.none,(.str xd 278),.none,(.ref 88),.none,0⟩),⟨[]⟩⟩
noncomputable def vv:OP:=fun P=>⟨(.type y0),.none,(.seq ⟨[(.str oW 292)]⟩ 0),⟨[]⟩⟩
noncomputable def wQ:OP:=fun P=>⟨.none,.none,(.func ⟨nQ,nQ,(fA (st 10)),(.stmts (fB (st 10))),(fS (st 10)),0,[],.none,.none,.none,.none,.none,.none,.none,0⟩),⟨[]⟩⟩
noncomputable def vt:OP:=fun P=>⟨(.type y1),.none,(.fields ⟨[(.str nQ 289),(.str nQ 290),(.str aQ 291),(.int 20 0),(.int 1 0),(.int 0 0),(.int 0 0),(.int 3 0),(.ref 90),(.bool .true),(.int 181 0),(.ref 91),.none,(.ref 92),(.ref 93),(.ref 94),(.int 293 0),(.int 20 0),(.str aQ 294)]⟩),⟨[]⟩⟩
noncomputable def vr:OP:=fun P=>⟨(.type y2),.none,(.func ⟨nQ,nQ,(fA (st 10)),(.stmts (fB (st 10))),(fS (st 10)),3,[],.none,.none,.none,(.str xd 278),.none,(.ref 95),.none,0⟩),⟨[]⟩⟩
noncomputable def vq:OP:=fun P=>⟨(.type y0),.none,(.seq ⟨[(.str oW 299),(.str AA 300),(.str zq 301),(.str Az 302)]⟩ 0),⟨[]⟩⟩
noncomputable def wP:OP:=fun P=>⟨.none,.none,(.func ⟨nR,nR,(fA (st 11)),(.stmts (fB (st 11))),(fS (st 11)),0,[],.none,.none,.none,.none,.none,.none,.none,0⟩),⟨[]⟩⟩
noncomputable def vp:OP:=fun P=>⟨(.type y1),.none,(.fields ⟨[(.str nR 296),(.str nR 297),(.str aQ 298),(.int 23 0),(.int 1 0),(.int 0 0),(.int 0 0),(.int 3 0),(.ref 97),(.bool .true),(.int 181 0),(.ref 98),.none,(.ref 99),(.ref 100),(.ref 101),(.int 303 0),(.int 23 0),(.str aQ 304)]⟩),⟨[]⟩⟩
noncomputable def vn:OP:=fun P=>⟨(.type y2),.none,(.func ⟨nR,nR,(fA (st 11)),(.stmts (fB (st 11))),(fS (st 11)),3,[],.none,.none,.none,(.str xd 278),.none,(.ref 102),.none,0⟩),⟨[]⟩⟩
noncomputable def wO:OP:=fun P=>⟨.none,.none,(.func ⟨nS,nS,(fA (st 13)),(.stmts (fB (st 13))),(fS (st 13)),0,[],.none,.none,.none,.none,.none,.none,.none,0⟩),⟨[]⟩⟩
noncomputable def vm:OP:=fun P=>⟨(.type y1),.none,(.fields ⟨[(.str nS 308),(.str nS 309),(.str aQ 310),(.int 31 0),(.int 3 0),(.int 0 0),(.int 0 0),(.int 3 0),(.ref 104),(.bool .true),(.int 181 0),(.ref 105),.none,.none,.none,(.ref 106),(.int 311 0),(.int 31 0),(.str aQ 312)]⟩),⟨[]⟩⟩
noncomputable def vk:OP:=fun P=>⟨(.type y2),.none,(.func ⟨nS,nS,(fA (st 13)),(.stmts (fB (st 13))),(fS (st 13)),3,[],.none,.none,.none,(.str tR 306),.none,(.ref 107),.none,0⟩),⟨[]⟩⟩
noncomputable def vj:OP:=fun P=>⟨(.type y0),.none,(.seq ⟨[(.str z78 317),(.str oW 318),(.str AB 319)]⟩ 0),⟨[]⟩⟩
noncomputable def wN:OP:=fun P=>⟨.none,.none,(.func ⟨nU,nU,(fA (st 14)),(.stmts (fB (st 14))),(fS (st 14)),0,[],.none,.none,.none,.none,.none,.none,.none,0⟩),⟨[]⟩⟩
noncomputable def vg:OP:=fun P=>⟨(.type y1),.none,(.fields ⟨[(.str nU 314),(.str nU 315),(.str aQ 316),(.int 34 0),(.int 2 0),(.int 0 0),(.int 0 0),(.int 3 0),(.ref 109),(.bool .true),(.int 181 0),(.ref 110),.none,(.ref 111),(.ref 112),(.ref 113),(.int 320 0),(.int 34 0),(.str aQ 321)]⟩),⟨[]⟩⟩
noncomputable def vf:OP:=fun P=>⟨(.type y2),.none,(.func ⟨nU,nU,(fA (st 14)),(.stmts (fB (st 14))),(fS (st 14)),3,[],.none,.none,.none,(.str tR 306),.none,(.ref 114),.none,0⟩),⟨[]⟩⟩
noncomputable def CY:OP:=fun P=>⟨(.type y3),.none,(.dict ⟨[dE P oV 165 (.str ka 335),dE P q3 166 .none,dE P q4 167 .none,dE P q5 168 (.builtin SL.s7097527257260152453x26),dE P q6 169 .none,dE P q0 170 (.ref 6),dE P q7 171 (.ref 4),dE P q8 173 (.str aQ 172),dE P q10 174 .none,dE P jZ 193 (.ref 21),dE P z60 213 (.ref 31),dE P z48 229 (.ref 44),dE P z49 245 (.ref 56),dE P z50 261 (.ref 68),dE P z51 277 (.ref 80),dE P tQ 281 (.int 8 280),dE P nV 288 (.ref 89),dE P nQ 295 (.ref 96),dE P nR 305 (.ref 103),dE P nS 313 (.ref 108),dE P nU 322 (.ref 115),dE P oM 328 (.ref 120),dE P oN 334 (.ref 125)]⟩ 23),⟨[]⟩⟩
noncomputable def CX:OP:=fun P=>⟨.none,.none,(.fields ⟨[(.int 1 0),(.int 0 0),(.ref 20),(.int 5 0),(.int 0 0),(.ref 27),(.int 7 0),(.int 0 0),(.ref 40),(.int 9 0),(.int 0 0),(.ref 52),(.int 11 0),(.int 0 0),(.ref 64),(.int 13 0),(.int 0 0),(.ref 76),(.int 17 0),(.int 0 0),(.ref 88),(.int 20 0),(.int 0 0),(.ref 95),(.int 23 0),(.int 0 0),(.ref 102),(.int 31 0),(.int 0 0),(.ref 107),(.int 34 0),(.int 0 0),(.ref 114),(.int 39 0),(.int 0 0),(.ref 119),(.int 45 0),(.int 0 0),(.ref 124)]⟩),⟨[]⟩⟩
noncomputable def yG:OP:=fun P=>⟨.none,.none,(.func ⟨oM,oM,(fA (st 15)),(.stmts (fB (st 15))),(fS (st 15)),0,[],.none,.none,.none,.none,.none,.none,.none,0⟩),⟨[]⟩⟩
noncomputable def wM:OP:=fun P=>⟨(.type y1),.none,(.fields ⟨[(.str oM 323),(.str oM 324),(.str aQ 325),(.int 39 0),(.int 1 0),(.int 0 0),(.int 0 0),(.int 3 0),(.ref 116),(.bool .true),(.int 181 0),(.ref 117),.none,.none,.none,(.ref 118),(.int 326 0),(.int 39 0),(.str aQ 327)]⟩),⟨[]⟩⟩
noncomputable def wL:OP:=fun P=>⟨(.type y2),.none,(.func ⟨oM,oM,(fA (st 15)),(.stmts (fB (st 15))),(fS (st 15)),3,[],.none,.none,.none,(.str tR 306),.none,(.ref 119),.none,0⟩),⟨[]⟩⟩
noncomputable def yF:OP:=fun P=>⟨.none,.none,(.func ⟨oN,oN,(fA (st 16)),(.stmts (fB (st 16))),(fS (st 16)),0,[],.none,.none,.none,.none,.none,.none,.none,0⟩),⟨[]⟩⟩
noncomputable def wK:OP:=fun P=>⟨(.type y1),.none,(.fields ⟨[(.str oN 329),(.str oN 330),(.str aQ 331),(.int 45 0),(.int 2 0),(.int 0 0),(.int 0 0),(.int 3 0),(.ref 121),(.bool .true),(.int 181 0),(.ref 122),.none,.none,.none,(.ref 123),(.int 332 0),(.int 45 0),(.str aQ 333)]⟩),⟨[]⟩⟩
noncomputable def wJ:OP:=fun P=>⟨(.type y2),.none,(.func ⟨oN,oN,(fA (st 16)),(.stmts (fB (st 16))),(fS (st 16)),3,[],.none,.none,.none,(.str tR 306),.none,(.ref 124),.none,0⟩),⟨[]⟩⟩
noncomputable def CW:OP:=fun P=>⟨(.type y3),.none,(.dict ⟨[dE P oV 165 (.str ka 335),dE P q3 166 .none,dE P q4 167 .none,dE P q5 168 (.builtin SL.s7097527257260152453x26),dE P q6 169 .none,dE P q0 170 (.ref 6),dE P q7 171 (.ref 4),dE P q8 173 (.str aQ 172),dE P q10 174 .none,dE P jZ 193 (.ref 21),dE P z60 213 (.ref 31),dE P z48 229 (.ref 44),dE P z49 245 (.ref 56),dE P z50 261 (.ref 68),dE P z51 277 (.ref 80),dE P tQ 281 (.int 8 280),dE P nV 288 (.ref 89),dE P nQ 295 (.ref 96),dE P nR 305 (.ref 103),dE P nS 313 (.ref 108),dE P nU 322 (.ref 115),dE P oM 328 (.ref 120),dE P oN 334 (.ref 125),dE P z75 435 (.ref 205)]⟩ 24),⟨[]⟩⟩
noncomputable def CV:OP:=fun P=>⟨.none,.none,(.fields ⟨[(.int 1 0),(.int 0 0),(.ref 20),(.int 5 0),(.int 0 0),(.ref 27),(.int 7 0),(.int 0 0),(.ref 40),(.int 9 0),(.int 0 0),(.ref 52),(.int 11 0),(.int 0 0),(.ref 64),(.int 13 0),(.int 0 0),(.ref 76),(.int 17 0),(.int 0 0),(.ref 88),(.int 20 0),(.int 0 0),(.ref 95),(.int 23 0),(.int 0 0),(.ref 102),(.int 31 0),(.int 0 0),(.ref 107),(.int 34 0),(.int 0 0),(.ref 114),(.int 39 0),(.int 0 0),(.ref 119),(.int 45 0),(.int 0 0),(.ref 124),(.int 58 0),(.int 0 0),(.ref 131)]⟩),⟨[]⟩⟩
noncomputable def Aq:OP:=fun P=>⟨(.type y3),.none,(.dict ⟨[dE P q48 344 (.str ka 335),dE P q49 346 (.str z75 345),dE P q50 348 (.int 58 347),dE P tZ 356 (.ref 139),dE P ua 366 (.ref 146),dE P tY 374 (.ref 153),dE P tX 382 (.ref 160),dE P tW 390 (.ref 167),dE P tV 397 (.ref 174),dE P tU 404 (.ref 181),dE P tT 411 (.ref 188),dE P tS 418 (.ref 195),dE P z78 425 (.ref 202),dE P q51 428 (.ref 203)]⟩ 14),⟨[]⟩⟩
noncomputable def Ap:OP:=fun P=>⟨.none,.none,(.fields ⟨[(.int 60 0),(.int 4 0),(.ref 138),(.int 66 0),(.int 4 0),(.ref 145),(.int 72 0),(.int 4 0),(.ref 152),(.int 75 0),(.int 4 0),(.ref 159),(.int 78 0),(.int 4 0),(.ref 166),(.int 81 0),(.int 4 0),(.ref 173),(.int 84 0),(.int 4 0),(.ref 180),(.int 87 0),(.int 4 0),(.ref 187),(.int 90 0),(.int 4 0),(.ref 194),(.int 93 0),(.int 4 0),(.ref 201)]⟩),⟨[]⟩⟩
noncomputable def Ao:OP:=fun P=>⟨(.type y1),.none,(.fields ⟨[(.str z75 339),(.str z75 340),(.str aQ 341),(.int 58 0),(.int 0 0),(.int 0 0),(.int 0 0),(.int 0 0),(.ref 129),(.bool .false),(.int 181 0),(.ref 130),.none,.none,.none,.none,(.int 342 0),(.int 58 0),(.str aQ 343)]⟩),⟨[]⟩⟩
noncomputable def An:OP:=fun P=>⟨(.type SL.s658472552662922059x5),.none,.plain,⟨[(.some (.ref 131)),(.some (.ref 3)),(.some (.ref 128)),.none,(.some (.str ka 335)),.none,(.some (.ref 0))]⟩⟩
noncomputable def yE:OP:=fun P=>⟨(.type y0),.none,(.seq ⟨[(.str oO 352),(.str z77 353)]⟩ 0),⟨[]⟩⟩
noncomputable def Am:OP:=fun P=>⟨.none,.none,(.func ⟨tZ,q34,(fA (stC 18 0)),(.stmts (fB (stC 18 0))),(fS (stC 18 0)),0,[],.none,.none,.none,.none,.none,.none,.none,0⟩),⟨[]⟩⟩
noncomputable def yD:OP:=fun P=>⟨(.type y1),.none,(.fields ⟨[(.str tZ 349),(.str q34 350),(.str aQ 351),(.int 60 0),(.int 2 0),(.int 0 0),(.int 0 0),(.int 3 0),(.ref 133),(.bool .true),(.int 181 0),(.ref 134),.none,(.ref 135),(.ref 136),(.ref 137),(.int 354 0),(.int 60 0),(.str aQ 355)]⟩),⟨[]⟩⟩
noncomputable def yC:OP:=fun P=>⟨(.type y2),.none,(.func ⟨tZ,q34,(fA (stC 18 0)),(.stmts (fB (stC 18 0))),(fS (stC 18 0)),3,[],.none,.none,.none,(.str ka 335),.none,(.ref 138),.none,0⟩),⟨[]⟩⟩
noncomputable def yB:OP:=fun P=>⟨(.type y0),.none,(.seq ⟨[(.str oO 360),(.str oW 361),(.str AD 362),(.str AC 363)]⟩ 0),⟨[]⟩⟩
noncomputable def Al:OP:=fun P=>⟨.none,.none,(.func ⟨ua,q88,(fA (stC 18 1)),(.stmts (fB (stC 18 1))),(fS (stC 18 1)),0,[],.none,.none,.none,.none,.none,.none,.none,0⟩),⟨[]⟩⟩
noncomputable def yA:OP:=fun P=>⟨(.type y1),.none,(.fields ⟨[(.str ua 357),(.str q88 358),(.str aQ 359),(.int 66 0),(.int 3 0),(.int 0 0),(.int 0 0),(.int 3 0),(.ref 140),(.bool .true),(.int 181 0),(.ref 141),.none,(.ref 142),(.ref 143),(.ref 144),(.int 364 0),(.int 66 0),(.str aQ 365)]⟩),⟨[]⟩⟩
noncomputable def yz:OP:=fun P=>⟨(.type y2),.none,(.func ⟨ua,q88,(fA (stC 18 1)),(.stmts (fB (stC 18 1))),(fS (stC 18 1)),3,[],.none,.none,.none,(.str ka 335),.none,(.ref 145),.none,0⟩),⟨[]⟩⟩
noncomputable def yy:OP:=fun P=>⟨(.type y0),.none,(.seq ⟨[(.str oO 370),(.str oW 371)]⟩ 0),⟨[]⟩⟩
noncomputable def Ak:OP:=fun P=>⟨.none,.none,(.func ⟨tY,q31,(fA (stC 18 2)),(.stmts (fB (stC 18 2))),(fS (stC 18 2)),0,[],.none,.none,.none,.none,.none,.none,.none,0⟩),⟨[]⟩⟩
noncomputable def yx:OP:=fun P=>⟨(.type y1),.none,(.fields ⟨[(.str tY 367),(.str q31 368),(.str aQ 369),(.int 72 0),(.int 2 0),(.int 0 0),(.int 0 0),(.int 3 0),(.ref 147),(.bool .true),(.int 181 0),(.ref 148),.none,(.ref 149),(.ref 150),(.ref 151),(.int 372 0),(.int 72 0),(.str aQ 373)]⟩),⟨[]⟩⟩
noncomputable def yw:OP:=fun P=>⟨(.type y2),.none,(.func ⟨tY,q31,(fA (stC 18 2)),(.stmts (fB (stC 18 2))),(fS (stC 18 2)),3,[],.none,.none,.none,(.str ka 335),.none,(.ref 152),.none,0⟩),⟨[]⟩⟩
noncomputable def yv:OP:=fun P=>⟨(.type y0),.none,(.seq ⟨[(.str oO 378),(.str oW 379)]⟩ 0),⟨[]⟩⟩
noncomputable def Aj:OP:=fun P=>⟨.none,.none,(.func ⟨tX,q92,(fA (stC 18 3)),(.stmts (fB (stC 18 3))),(fS (stC 18 3)),0,[],.none,.none,.none,.none,.none,.none,.none,0⟩),⟨[]⟩⟩
noncomputable def yu:OP:=fun P=>⟨(.type y1),.none,(.fields ⟨[(.str tX 375),(.str q92 376),(.str aQ 377),(.int 75 0),(.int 2 0),(.int 0 0),(.int 0 0),(.int 3 0),(.ref 154),(.bool .true),(.int 181 0),(.ref 155),.none,(.ref 156),(.ref 157),(.ref 158),(.int 380 0),(.int 75 0),(.str aQ 381)]⟩),⟨[]⟩⟩
noncomputable def yt:OP:=fun P=>⟨(.type y2),.none,(.func ⟨tX,q92,(fA (stC 18 3)),(.stmts (fB (stC 18 3))),(fS (stC 18 3)),3,[],.none,.none,.none,(.str ka 335),.none,(.ref 159),.none,0⟩),⟨[]⟩⟩
noncomputable def yr:OP:=fun P=>⟨(.type y0),.none,(.seq ⟨[(.str oO 386),(.str oW 387)]⟩ 0),⟨[]⟩⟩
noncomputable def Ai:OP:=fun P=>⟨.none,.none,(.func ⟨tW,q59,(fA (stC 18 4)),(.stmts (fB (stC 18 4))),(fS (stC 18 4)),0,[],.none,.none,.none,.none,.none,.none,.none,0⟩),⟨[]⟩⟩
noncomputable def yq:OP:=fun P=>⟨(.type y1),.none,(.fields ⟨[(.str tW 383),(.str q59 384),(.str aQ 385),(.int 78 0),(.int 2 0),(.int 0 0),(.int 0 0),(.int 3 0),(.ref 161),(.bool .true),(.int 181 0),(.ref 162),.none,(.ref 163),(.ref 164),(.ref 165),(.int 388 0),(.int 78 0),(.str aQ 389)]⟩),⟨[]⟩⟩
noncomputable def yp:OP:=fun P=>⟨(.type y2),.none,(.func ⟨tW,q59,(fA (stC 18 4)),(.stmts (fB (stC 18 4))),(fS (stC 18 4)),3,[],.none,.none,.none,(.str ka 335),.none,(.ref 166),.none,0⟩),⟨[]⟩⟩
noncomputable def yo:OP:=fun P=>⟨(.type y0),.none,(.seq ⟨[(.str oO 394)]⟩ 0),⟨[]⟩⟩
noncomputable def Ah:OP:=fun P=>⟨.none,.none,(.func ⟨tV,q86,(fA (stC 18 5)),(.stmts (fB (stC 18 5))),(fS (stC 18 5)),0,[],.none,.none,.none,.none,.none,.none,.none,0⟩),⟨[]⟩⟩
noncomputable def yn:OP:=fun P=>⟨(.type y1),.none,(.fields ⟨[(.str tV 391),(.str q86 392),(.str aQ 393),(.int 81 0),(.int 1 0),(.int 0 0),(.int 0 0),(.int 3 0),(.ref 168),(.bool .true),(.int 181 0),(.ref 169),.none,(.ref 170),(.ref 171),(.ref 172),(.int 395 0),(.int 81 0),(.str aQ 396)]⟩),⟨[]⟩⟩
noncomputable def ym:OP:=fun P=>⟨(.type y2),.none,(.func ⟨tV,q86,(fA (stC 18 5)),(.stmts (fB (stC 18 5))),(fS (stC 18 5)),3,[],.none,.none,.none,(.str ka 335),.none,(.ref 173),.none,0⟩),⟨[]⟩⟩
noncomputable def yl:OP:=fun P=>⟨(.type y0),.none,(.seq ⟨[(.str oO 401)]⟩ 0),⟨[]⟩⟩
noncomputable def Ag:OP:=fun P=>⟨.none,.none,(.func ⟨tU,q40,(fA (stC 18 6)),(.stmts (fB (stC 18 6))),(fS (stC 18 6)),0,[],.none,.none,.none,.none,.none,.none,.none,0⟩),⟨[]⟩⟩
noncomputable def yk:OP:=fun P=>⟨(.type y1),.none,(.fields ⟨[(.str tU 398),(.str q40 399),(.str aQ 400),(.int 84 0),(.int 1 0),(.int 0 0),(.int 0 0),(.int 3 0),(.ref 175),(.bool .true),(.int 181 0),(.ref 176),.none,(.ref 177),(.ref 178),(.ref 179),(.int 402 0),(.int 84 0),(.str aQ 403)]⟩),⟨[]⟩⟩
noncomputable def yj:OP:=fun P=>⟨(.type y2),.none,(.func ⟨tU,q40,(fA (stC 18 6)),(.stmts (fB (stC 18 6))),(fS (stC 18 6)),3,[],.none,.none,.none,(.str ka 335),.none,(.ref 180),.none,0⟩),⟨[]⟩⟩
noncomputable def yi:OP:=fun P=>⟨(.type y0),.none,(.seq ⟨[(.str oO 408)]⟩ 0),⟨[]⟩⟩
noncomputable def Af:OP:=fun P=>⟨.none,.none,(.func ⟨tT,q43,(fA (stC 18 7)),(.stmts (fB (stC 18 7))),(fS (stC 18 7)),0,[],.none,.none,.none,.none,.none,.none,.none,0⟩),⟨[]⟩⟩
noncomputable def yh:OP:=fun P=>⟨(.type y1),.none,(.fields ⟨[(.str tT 405),(.str q43 406),(.str aQ 407),(.int 87 0),(.int 1 0),(.int 0 0),(.int 0 0),(.int 3 0),(.ref 182),(.bool .true),(.int 181 0),(.ref 183),.none,(.ref 184),(.ref 185),(.ref 186),(.int 409 0),(.int 87 0),(.str aQ 410)]⟩),⟨[]⟩⟩
noncomputable def yg:OP:=fun P=>⟨(.type y2),.none,(.func ⟨tT,q43,(fA (stC 18 7)),(.stmts (fB (stC 18 7))),(fS (stC 18 7)),3,[],.none,.none,.none,(.str ka 335),.none,(.ref 187),.none,0⟩),⟨[]⟩⟩
noncomputable def yf:OP:=fun P=>⟨(.type y0),.none,(.seq ⟨[(.str oO 415)]⟩ 0),⟨[]⟩⟩
noncomputable def Ae:OP:=fun P=>⟨.none,.none,(.func ⟨tS,q56,(fA (stC 18 8)),(.stmts (fB (stC 18 8))),(fS (stC 18 8)),0,[],.none,.none,.none,.none,.none,.none,.none,0⟩),⟨[]⟩⟩
noncomputable def ye:OP:=fun P=>⟨(.type y1),.none,(.fields ⟨[(.str tS 412),(.str q56 413),(.str aQ 414),(.int 90 0),(.int 1 0),(.int 0 0),(.int 0 0),(.int 3 0),(.ref 189),(.bool .true),(.int 181 0),(.ref 190),.none,(.ref 191),(.ref 192),(.ref 193),(.int 416 0),(.int 90 0),(.str aQ 417)]⟩),⟨[]⟩⟩
noncomputable def yd:OP:=fun P=>⟨(.type y2),.none,(.func ⟨tS,q56,(fA (stC 18 8)),(.stmts (fB (stC 18 8))),(fS (stC 18 8)),3,[],.none,.none,.none,(.str ka 335),.none,(.ref 194),.none,0⟩),⟨[]⟩⟩
noncomputable def yc:OP:=fun P=>⟨(.type y0),.none,(.seq ⟨[(.str oO 422)]⟩ 0),⟨[]⟩⟩
noncomputable def Ad:OP:=fun P=>⟨.none,.none,(.func ⟨z78,q37,(fA (stC 18 9)),(.stmts (fB (stC 18 9))),(fS (stC 18 9)),0,[],.none,.none,.none,.none,.none,.none,.none,0⟩),⟨[]⟩⟩
noncomputable def yb:OP:=fun P=>⟨(.type y1),.none,(.fields ⟨[(.str z78 419),(.str q37 420),(.str aQ 421),(.int 93 0),(.int 1 0),(.int 0 0),(.int 0 0),(.int 3 0),(.ref 196),(.bool .true),(.int 181 0),(.ref 197),.none,(.ref 198),(.ref 199),(.ref 200),(.int 423 0),(.int 93 0),(.str aQ 424)]⟩),⟨[]⟩⟩
noncomputable def ya:OP:=fun P=>⟨(.type y2),.none,(.func ⟨z78,q37,(fA (stC 18 9)),(.stmts (fB (stC 18 9))),(fS (stC 18 9)),3,[],.none,.none,.none,(.str ka 335),.none,(.ref 201),.none,0⟩),⟨[]⟩⟩
noncomputable def xZ:OP:=fun P=>⟨(.type y0),.none,(.seq ⟨[(.str z77 426),(.str AE 427)]⟩ 0),⟨[]⟩⟩
noncomputable def xY:OP:=fun P=>⟨(.type y3),.none,(.dict ⟨[dE P q48 344 (.str ka 335),dE P q50 348 (.int 58 347),dE P tZ 356 (.ref 139),dE P ua 366 (.ref 146),dE P tY 374 (.ref 153),dE P tX 382 (.ref 160),dE P tW 390 (.ref 167),dE P tV 397 (.ref 174),dE P tU 404 (.ref 181),dE P tT 411 (.ref 188),dE P tS 418 (.ref 195),dE P z78 425 (.ref 202),dE P q51 428 (.ref 203),dE P q44 430 (.ref 206),dE P q61 432 (.ref 207),dE P q3 433 .none]⟩ 4),⟨[]⟩⟩
noncomputable def xX:OP:=fun P=>⟨(.type y4),.none,(.cls ⟨z75,[(.type SL.s2742458400755230247x6)],[(.ref 205),(.type SL.s2742458400755230247x6)],204,z75,.true,[],[],.false,.none,.false⟩),⟨[.none,.none,(.some (.str z75 337)),(.some (.str z75 345)),(.some (.builtin SL.s11443829558043349243x14)),(.some (.bool .true))]⟩⟩
noncomputable def xW:OP:=fun P=>⟨(.type SL.s14755015743595814543x17),.none,(.fields ⟨[(.str q44 429),(.ref 205),(.builtin SL.s6511155373996960695x17),(.builtin SL.s12411053484034534018x21)]⟩),⟨[]⟩⟩
noncomputable def xV:OP:=fun P=>⟨(.type SL.s14755015743595814543x17),.none,(.fields ⟨[(.str q61 431),(.ref 205),(.builtin SL.s10220274742760427390x26),.none]⟩),⟨[]⟩⟩
noncomputable def Ac:OP:=fun P=>⟨(.type SL.s4290257624100764138x5),.none,(.fields ⟨[(.ref 205),(.ref 205),(.ref 205)]⟩),⟨[]⟩⟩
noncomputable def Ab:OP:=fun P=>⟨(.type SL.s11030030927630378310x26),.none,(.fields ⟨[(.builtin SL.s4860613602091757760x24),(.ref 205)]⟩),⟨[]⟩⟩
noncomputable def CU:OP:=fun P=>⟨(.type y3),.none,(.dict ⟨[dE P oV 165 (.str lr 469),dE P q3 166 .none,dE P q4 167 .none,dE P q5 168 (.builtin SL.s7097527257260152453x26),dE P q6 169 .none,dE P q0 170 (.ref 6),dE P q7 171 (.ref 4),dE P q8 173 (.str aQ 172),dE P q10 174 .none,dE P jZ 193 (.ref 21),dE P z60 213 (.ref 31),dE P z48 229 (.ref 44),dE P z49 245 (.ref 56),dE P z50 261 (.ref 68),dE P z51 277 (.ref 80),dE P tQ 281 (.int 8 280),dE P nV 288 (.ref 89),dE P nQ 295 (.ref 96),dE P nR 305 (.ref 103),dE P nS 313 (.ref 108),dE P nU 322 (.ref 115),dE P oM 328 (.ref 120),dE P oN 334 (.ref 125),dE P z75 435 (.ref 205),dE P rG 443 (.ref 214),dE P z99 453 (.ref 221),dE P z59 468 (.ref 228),dE P z76 477 (.ref 235),dE P z65 485 (.ref 242),dE P z79 495 (.ref 249),dE P z71 501 (.ref 254),dE P z94 510 (.ref 261),dE P z73 516 (.ref 266),dE P z0 524 (.ref 273),dE P z23 541 (.ref 280),dE P z43 547 (.ref 285)]⟩ 36),⟨[]⟩⟩
noncomputable def CT:OP:=fun P=>⟨.none,.none,(.fields ⟨[(.int 1 0),(.int 0 0),(.ref 20),(.int 5 0),(.int 0 0),(.ref 27),(.int 7 0),(.int 0 0),(.ref 40),(.int 9 0),(.int 0 0),(.ref 52),(.int 11 0),(.int 0 0),(.ref 64),(.int 13 0),(.int 0 0),(.ref 76),(.int 17 0),(.int 0 0),(.ref 88),(.int 20 0),(.int 0 0),(.ref 95),(.int 23 0),(.int 0 0),(.ref 102),(.int 31 0),(.int 0 0),(.ref 107),(.int 34 0),(.int 0 0),(.ref 114),(.int 39 0),(.int 0 0),(.ref 119),(.int 45 0),(.int 0 0),(.ref 124),(.int 58 0),(.int 0 0),(.ref 131),(.int 96 0),(.int 0 0),(.ref 213),(.int 102 0),(.int 0 0),(.ref 220),(.int 112 0),(.int 0 0),(.ref 227),(.int 134 0),(.int 0 0),(.ref 234),(.int 136 0),(.int 0 0),(.ref 241),(.int 140 0),(.int 0 0),(.ref 248),(.int 147 0),(.int 0 0),(.ref 253),(.int 161 0),(.int 0 0),(.ref 260),(.int 169 0),(.int 0 0),(.ref 265),(.int 186 0),(.int 0 0),(.ref 272),(.int 192 0),(.int 0 0),(.ref 279),(.int 218 0),(.int 0 0),(.ref 284)]⟩),⟨[]⟩⟩
noncomputable def Bk:OP:=fun P=>⟨.none,.none,(.func ⟨rG,rG,(fA (st 20)),(.stmts (fB (st 20))),(fS (st 20)),0,[],.none,.none,.none,.none,.none,.none,.none,0⟩),⟨[]⟩⟩
noncomputable def Aa:OP:=fun P=>⟨(.type y1),.none,(.fields ⟨[(.str rG 438),(.str rG 439),(.str aQ 440),(.int 96 0),(.int 1 0),(.int 0 0),(.int 0 0),(.int 3 0),(.ref 210),(.bool .true),(.int 181 0),(.ref 211),.none,.none,.none,(.ref 212),(.int 441 0),(.int 96 0),(.str aQ 442)]⟩),⟨[]⟩⟩
noncomputable def zZ:OP:=fun P=>⟨(.type y2),.none,(.func ⟨rG,rG,(fA (st 20)),(.stmts (fB (st 20))),(fS (st 20)),3,[],.none,.none,.none,(.str xe 436),.none,(.ref 213),.none,0⟩),⟨[]⟩⟩
noncomputable def zY:OP:=fun P=>⟨(.type y0),.none,(.seq ⟨[(.str zr 447),(.str AM 448),(.str AL 449),(.str AK 450)]⟩ 0),⟨[]⟩⟩
noncomputable def Bj:OP:=fun P=>⟨.none,.none,(.func ⟨z99,z99,(fA (st 21)),(.stmts (fB (st 21))),(fS (st 21)),0,[],.none,.none,.none,.none,.none,.none,.none,0⟩),⟨[]⟩⟩
noncomputable def zX:OP:=fun P=>⟨(.type y1),.none,(.fields ⟨[(.str z99 444),(.str z99 445),(.str aQ 446),(.int 102 0),(.int 2 0),(.int 0 0),(.int 0 0),(.int 3 0),(.ref 215),(.bool .true),(.int 181 0),(.ref 216),.none,(.ref 217),(.ref 218),(.ref 219),(.int 451 0),(.int 102 0),(.str aQ 452)]⟩),⟨[]⟩⟩
noncomputable def zW:OP:=fun P=>⟨(.type y2),.none,(.func ⟨z99,z99,(fA (st 21)),(.stmts (fB (st 21))),(fS (st 21)),3,[],.none,.none,.none,(.str xe 436),.none,(.ref 220),.none,0⟩),⟨[]⟩⟩
noncomputable def zV:OP:=fun P=>⟨(.type y0),.none,(.seq ⟨[(.str zq 457),(.str AJ 458),(.str z77 459),(.str AI 460),(.str AH 461),(.str AG 462),(.str zr 463),(.str AF 464),(.str oW 465)]⟩ 0),⟨[]⟩⟩
noncomputable def Bi:OP:=fun P=>⟨.none,.none,(.func ⟨z59,z59,(fA (st 22)),(.stmts (fB (st 22))),(fS (st 22)),0,[],.none,.none,.none,.none,.none,.none,.none,0⟩),⟨[]⟩⟩
noncomputable def zU:OP:=fun P=>⟨(.type y1),.none,(.fields ⟨[(.str z59 454),(.str z59 455),(.str aQ 456),(.int 112 0),(.int 1 0),(.int 0 0),(.int 0 0),(.int 3 0),(.ref 222),(.bool .true),(.int 181 0),(.ref 223),.none,(.ref 224),(.ref 225),(.ref 226),(.int 466 0),(.int 112 0),(.str aQ 467)]⟩),⟨[]⟩⟩
noncomputable def zT:OP:=fun P=>⟨(.type y2),.none,(.func ⟨z59,z59,(fA (st 22)),(.stmts (fB (st 22))),(fS (st 22)),3,[],.none,.none,.none,(.str xe 436),.none,(.ref 227),.none,0⟩),⟨[]⟩⟩
noncomputable def zS:OP:=fun P=>⟨(.type y0),.none,(.seq ⟨[(.str z74 474)]⟩ 0),⟨[]⟩⟩
noncomputable def Bh:OP:=fun P=>⟨.none,.none,(.func ⟨z76,z76,(fA (st 24)),(.stmts (fB (st 24))),(fS (st 24)),0,[],.none,.none,.none,.none,.none,.none,.none,0⟩),⟨[]⟩⟩
noncomputable def zR:OP:=fun P=>⟨(.type y1),.none,(.fields ⟨[(.str z76 471),(.str z76 472),(.str aQ 473),(.int 134 0),(.int 1 0),(.int 0 0),(.int 0 0),(.int 3 0),(.ref 229),(.bool .true),(.int 181 0),(.ref 230),.none,(.ref 231),(.ref 232),(.ref 233),(.int 475 0),(.int 134 0),(.str aQ 476)]⟩),⟨[]⟩⟩
noncomputable def zQ:OP:=fun P=>⟨(.type y2),.none,(.func ⟨z76,z76,(fA (st 24)),(.stmts (fB (st 24))),(fS (st 24)),3,[],.none,.none,.none,(.str lr 469),.none,(.ref 234),.none,0⟩),⟨[]⟩⟩
noncomputable def zP:OP:=fun P=>⟨(.type y0),.none,(.seq ⟨[(.str z63 481),(.str z53 482)]⟩ 0),⟨[]⟩⟩
noncomputable def Bg:OP:=fun P=>⟨.none,.none,(.func ⟨z65,z65,(fA (st 25)),(.stmts (fB (st 25))),(fS (st 25)),0,[],.none,.none,.none,.none,.none,.none,.none,0⟩),⟨[]⟩⟩
noncomputable def zO:OP:=fun P=>⟨(.type y1),.none,(.fields ⟨[(.str z65 478),(.str z65 479),(.str aQ 480),(.int 136 0),(.int 2 0),(.int 0 0),(.int 0 0),(.int 3 0),(.ref 236),(.bool .true),(.int 181 0),(.ref 237),.none,(.ref 238),(.ref 239),(.ref 240),(.int 483 0),(.int 136 0),(.str aQ 484)]⟩),⟨[]⟩⟩
noncomputable def zN:OP:=fun P=>⟨(.type y2),.none,(.func ⟨z65,z65,(fA (st 25)),(.stmts (fB (st 25))),(fS (st 25)),3,[],.none,.none,.none,(.str lr 469),.none,(.ref 241),.none,0⟩),⟨[]⟩⟩
noncomputable def zM:OP:=fun P=>⟨(.type y0),.none,(.seq ⟨[(.str z70 489),(.str z80 490),(.str z74 491),(.str z81 492)]⟩ 0),⟨[]⟩⟩
noncomputable def Bf:OP:=fun P=>⟨.none,.none,(.func ⟨z79,z79,(fA (st 26)),(.stmts (fB (st 26))),(fS (st 26)),0,[],.none,.none,.none,.none,.none,.none,.none,0⟩),⟨[]⟩⟩
noncomputable def zL:OP:=fun P=>⟨(.type y1),.none,(.fields ⟨[(.str z79 486),(.str z79 487),(.str aQ 488),(.int 140 0),(.int 1 0),(.int 0 0),(.int 0 0),(.int 3 0),(.ref 243),(.bool .true),(.int 181 0),(.ref 244),.none,(.ref 245),(.ref 246),(.ref 247),(.int 493 0),(.int 140 0),(.str aQ 494)]⟩),⟨[]⟩⟩
noncomputable def zK:OP:=fun P=>⟨(.type y2),.none,(.func ⟨z79,z79,(fA (st 26)),(.stmts (fB (st 26))),(fS (st 26)),3,[],.none,.none,.none,(.str lr 469),.none,(.ref 248),.none,0⟩),⟨[]⟩⟩
noncomputable def Be:OP:=fun P=>⟨.none,.none,(.func ⟨z71,z71,(fA (st 27)),(.stmts (fB (st 27))),(fS (st 27)),0,[],.none,.none,.none,.none,.none,.none,.none,0⟩),⟨[]⟩⟩
noncomputable def zJ:OP:=fun P=>⟨(.type y1),.none,(.fields ⟨[(.str z71 496),(.str z71 497),(.str aQ 498),(.int 147 0),(.int 2 0),(.int 0 0),(.int 0 0),(.int 3 0),(.ref 250),(.bool .true),(.int 181 0),(.ref 251),.none,.none,.none,(.ref 252),(.int 499 0),(.int 147 0),(.str aQ 500)]⟩),⟨[]⟩⟩
noncomputable def zI:OP:=fun P=>⟨(.type y2),.none,(.func ⟨z71,z71,(fA (st 27)),(.stmts (fB (st 27))),(fS (st 27)),3,[],.none,.none,.none,(.str lr 469),.none,(.ref 253),.none,0⟩),⟨[]⟩⟩
noncomputable def zH:OP:=fun P=>⟨(.type y0),.none,(.seq ⟨[(.str z95 505),(.str z38 506),(.str z29 507)]⟩ 0),⟨[]⟩⟩
noncomputable def Bd:OP:=fun P=>⟨.none,.none,(.func ⟨z94,z94,(fA (st 28)),(.stmts (fB (st 28))),(fS (st 28)),0,[],.none,.none,.none,.none,.none,.none,.none,0⟩),⟨[]⟩⟩
noncomputable def zG:OP:=fun P=>⟨(.type y1),.none,(.fields ⟨[(.str z94 502),(.str z94 503),(.str aQ 504),(.int 161 0),(.int 1 0),(.int 0 0),(.int 0 0),(.int 3 0),(.ref 255),(.bool .true),(.int 181 0),(.ref 256),.none,(.ref 257),(.ref 258),(.ref 259),(.int 508 0),(.int 161 0),(.str aQ 509)]⟩),⟨[]⟩⟩
noncomputable def zF:OP:=fun P=>⟨(.type y2),.none,(.func ⟨z94,z94,(fA (st 28)),(.stmts (fB (st 28))),(fS (st 28)),3,[],.none,.none,.none,(.str lr 469),.none,(.ref 260),.none,0⟩),⟨[]⟩⟩
noncomputable def Bc:OP:=fun P=>⟨.none,.none,(.func ⟨z73,z73,(fA (st 29)),(.stmts (fB (st 29))),(fS (st 29)),0,[],.none,.none,.none,.none,.none,.none,.none,0⟩),⟨[]⟩⟩
noncomputable def zE:OP:=fun P=>⟨(.type y1),.none,(.fields ⟨[(.str z73 511),(.str z73 512),(.str aQ 513),(.int 169 0),(.int 1 0),(.int 0 0),(.int 0 0),(.int 3 0),(.ref 262),(.bool .true),(.int 181 0),(.ref 263),.none,.none,.none,(.ref 264),(.int 514 0),(.int 169 0),(.str aQ 515)]⟩),⟨[]⟩⟩
noncomputable def zD:OP:=fun P=>⟨(.type y2),.none,(.func ⟨z73,z73,(fA (st 29)),(.stmts (fB (st 29))),(fS (st 29)),3,[],.none,.none,.none,(.str lr 469),.none,(.ref 265),.none,0⟩),⟨[]⟩⟩
noncomputable def zC:OP:=fun P=>⟨(.type y0),.none,(.seq ⟨[(.str z1 520),(.str z2 521)]⟩ 0),⟨[]⟩⟩
noncomputable def Bb:OP:=fun P=>⟨.none,.none,(.func ⟨z0,z0,(fA (st 30)),(.stmts (fB (st 30))),(fS (st 30)),0,[],.none,.none,.none,.none,.none,.none,.none,0⟩),⟨[]⟩⟩
noncomputable def zB:OP:=fun P=>⟨(.type y1),.none,(.fields ⟨[(.str z0 517),(.str z0 518),(.str aQ 519),(.int 186 0),(.int 1 0),(.int 0 0),(.int 0 0),(.int 3 0),(.ref 267),(.bool .true),(.int 181 0),(.ref 268),.none,(.ref 269),(.ref 270),(.ref 271),(.int 522 0),(.int 186 0),(.str aQ 523)]⟩),⟨[]⟩⟩
noncomputable def zA:OP:=fun P=>⟨(.type y2),.none,(.func ⟨z0,z0,(fA (st 30)),(.stmts (fB (st 30))),(fS (st 30)),3,[],.none,.none,.none,(.str lr 469),.none,(.ref 272),.none,0⟩),⟨[]⟩⟩
noncomputable def zz:OP:=fun P=>⟨(.type y0),.none,(.seq ⟨[(.str z24 528),(.str z1 529),(.str z25 530),(.str z26 531),(.str z2 532),(.str z29 533),(.str z31 534),(.str z34 535),(.str z35 536),(.str z36 537),(.str z38 538)]⟩ 0),⟨[]⟩⟩
noncomputable def Ba:OP:=fun P=>⟨.none,.none,(.func ⟨z23,z23,(fA (st 31)),(.stmts (fB (st 31))),(fS (st 31)),0,[],.none,.none,.none,.none,.none,.none,.none,0⟩),⟨[]⟩⟩
noncomputable def zy:OP:=fun P=>⟨(.type y1),.none,(.fields ⟨[(.str z23 525),(.str z23 526),(.str aQ 527),(.int 192 0),(.int 3 0),(.int 0 0),(.int 0 0),(.int 3 0),(.ref 274),(.bool .true),(.int 181 0),(.ref 275),.none,(.ref 276),(.ref 277),(.ref 278),(.int 539 0),(.int 192 0),(.str aQ 540)]⟩),⟨[]⟩⟩
noncomputable def zx:OP:=fun P=>⟨(.type y2),.none,(.func ⟨z23,z23,(fA (st 31)),(.stmts (fB (st 31))),(fS (st 31)),3,[],.none,.none,.none,(.str lr 469),.none,(.ref 279),.none,0⟩),⟨[]⟩⟩
noncomputable def AZ:OP:=fun P=>⟨.none,.none,(.func ⟨z43,z43,(fA (st 32)),(.stmts (fB (st 32))),(fS (st 32)),0,[],.none,.none,.none,.none,.none,.none,.none,0⟩),⟨[]⟩⟩
noncomputable def zw:OP:=fun P=>⟨(.type y1),.none,(.fields ⟨[(.str z43 542),(.str z43 543),(.str aQ 544),(.int 218 0),(.int 2 0),(.int 0 0),(.int 0 0),(.int 3 0),(.ref 281),(.bool .true),(.int 181 0),(.ref 282),.none,.none,.none,(.ref 283),(.int 545 0),(.int 218 0),(.str aQ 546)]⟩),⟨[]⟩⟩
noncomputable def zv:OP:=fun P=>⟨(.type y2),.none,(.func ⟨z43,z43,(fA (st 32)),(.stmts (fB (st 32))),(fS (st 32)),3,[],.none,.none,.none,(.str lr 469),.none,(.ref 284),.none,0⟩),⟨[]⟩⟩
noncomputable def AY:OP:=fun P=>⟨(.type y3),.none,(.dict ⟨[dE P oV 165 (.str lr 469),dE P q3 166 .none,dE P q4 167 .none,dE P q5 168 (.builtin SL.s7097527257260152453x26),dE P q6 169 .none,dE P q0 170 (.ref 6),dE P q7 171 (.ref 4),dE P q8 173 (.str aQ 172),dE P q10 174 .none,dE P jZ 193 (.ref 21),dE P z60 213 (.ref 31),dE P z48 229 (.ref 44),dE P z49 245 (.ref 56),dE P z50 261 (.ref 68),dE P z51 277 (.ref 80),dE P tQ 281 (.int 8 280),dE P nV 288 (.ref 89),dE P nQ 295 (.ref 96),dE P nR 305 (.ref 103),dE P nS 313 (.ref 108),dE P nU 322 (.ref 115),dE P oM 328 (.ref 120),dE P oN 334 (.ref 125),dE P z75 435 (.ref 205),dE P rG 443 (.ref 214),dE P z99 453 (.ref 221),dE P z59 468 (.ref 228),dE P z76 477 (.ref 235),dE P z65 485 (.ref 242),dE P z79 495 (.ref 249),dE P z71 501 (.ref 254),dE P z94 510 (.ref 261),dE P z73 516 (.ref 266),dE P z0 524 (.ref 273),dE P z23 541 (.ref 280),dE P z43 547 (.ref 285),dE P z57 556 (.ref 292),dE P z62 562 (.ref 297)]⟩ 38),⟨[]⟩⟩
noncomputable def Cd:OP:=fun P=>⟨.none,.none,(.fields ⟨[(.int 1 0),(.int 0 0),(.ref 20),(.int 5 0),(.int 0 0),(.ref 27),(.int 7 0),(.int 0 0),(.ref 40),(.int 9 0),(.int 0 0),(.ref 52),(.int 11 0),(.int 0 0),(.ref 64),(.int 13 0),(.int 0 0),(.ref 76),(.int 17 0),(.int 0 0),(.ref 88),(.int 20 0),(.int 0 0),(.ref 95),(.int 23 0),(.int 0 0),(.ref 102),(.int 31 0),(.int 0 0),(.ref 107),(.int 34 0),(.int 0 0),(.ref 114),(.int 39 0),(.int 0 0),(.ref 119),(.int 45 0),(.int 0 0),(.ref 124),(.int 58 0),(.int 0 0),(.ref 131),(.int 96 0),(.int 0 0),(.ref 213),(.int 102 0),(.int 0 0),(.ref 220),(.int 112 0),(.int 0 0),(.ref 227),(.int 134 0),(.int 0 0),(.ref 234),(.int 136 0),(.int 0 0),(.ref 241),(.int 140 0),(.int 0 0),(.ref 248),(.int 147 0),(.int 0 0),(.ref 253),(.int 161 0),(.int 0 0),(.ref 260),(.int 169 0),(.int 0 0),(.ref 265),(.int 186 0),(.int 0 0),(.ref 272),(.int 192 0),(.int 0 0),(.ref 279),(.int 218 0),(.int 0 0),(.ref 284),(.int 221 0),(.int 0 0),(.ref 291),(.int 232 0),(.int 0 0),(.ref 296)]⟩),⟨[]⟩⟩
noncomputable def AX:OP:=fun P=>⟨(.type y0),.none,(.seq ⟨[(.str z24 551),(.str z58 552),(.str z44 553)]⟩ 0),⟨[]⟩⟩
noncomputable def Cc:OP:=fun P=>⟨.none,.none,(.func ⟨z57,z57,(fA (st 33)),(.stmts (fB (st 33))),(fS (st 33)),0,[],.none,.none,.none,.none,.none,.none,.none,0⟩),⟨[]⟩⟩
noncomputable def AW:OP:=fun P=>⟨(.type y1),.none,(.fields ⟨[(.str z57 548),(.str z57 549),(.str aQ 550),(.int 221 0),(.int 1 0),(.int 0 0),(.int 0 0),(.int 3 0),(.ref 286),(.bool .true),(.int 181 0),(.ref 287),.none,(.ref 288),(.ref 289),(.ref 290),(.int 554 0),(.int 221 0),(.str aQ 555)]⟩),⟨[]⟩⟩
noncomputable def AV:OP:=fun P=>⟨(.type y2),.none,(.func ⟨z57,z57,(fA (st 33)),(.stmts (fB (st 33))),(fS (st 33)),3,[],.none,.none,.none,(.str lr 469),.none,(.ref 291),.none,0⟩),⟨[]⟩⟩
noncomputable def Cb:OP:=fun P=>⟨.none,.none,(.func ⟨z62,z62,(fA (st 34)),(.stmts (fB (st 34))),(fS (st 34)),0,[],.none,.none,.none,.none,.none,.none,.none,0⟩),⟨[]⟩⟩
noncomputable def AU:OP:=fun P=>⟨(.type y1),.none,(.fields ⟨[(.str z62 557),(.str z62 558),(.str aQ 559),(.int 232 0),(.int 1 0),(.int 0 0),(.int 0 0),(.int 3 0),(.ref 293),(.bool .true),(.int 181 0),(.ref 294),.none,.none,.none,(.ref 295),(.int 560 0),(.int 232 0),(.str aQ 561)]⟩),⟨[]⟩⟩
noncomputable def AR:OP:=fun P=>⟨(.type y2),.none,(.func ⟨z62,z62,(fA (st 34)),(.stmts (fB (st 34))),(fS (st 34)),3,[],.none,.none,.none,(.str lr 469),.none,(.ref 296),.none,0⟩),⟨[]⟩⟩
noncomputable def mC:Params→W.BT:=(fun P=>(.node (boot_o_0 P) (.node (boot_o_1 P) (.node (o49 P) (.node (boot_o_7 P) (.node (o43 P) (lf (o67 P)) .nil) (lf (o59 P))) (.node (o43 P) (lf (o55 P)) (lf (o63 P)))) (.node (boot_o_5 P) (.node (boot_o_9 P) (.node (o53 P) (lf (o69 P)) .nil) (lf (o43 P))) (.node (o45 P) (lf (o57 P)) (lf (o43 P))))) (.node (boot_o_2 P) (.node (boot_o_4 P) (.node (boot_o_8 P) (.node (o44 P) (lf (o68 P)) .nil) (lf (o60 P))) (.node (o50 P) (lf (o56 P)) (lf (o64 P)))) (.node (boot_o_6 P) (.node (boot_o_10 P) (.node (o43 P) (lf (o70 P)) .nil) (lf (o44 P))) (.node (o46 P) (lf (o58 P)) (lf (o66 P)))))))
noncomputable def jm:Params→W.BT:=(fun P=>(.node (boot_o_0 P) (.node (boot_o_1 P) (.node (CU P) (.node (boot_o_7 P) (.node (o43 P) (.node (vD P) (.node (o44 P) (.node (o59 P) (lf (o43 P)) .nil) (lf (yf P))) (.node (vt P) (lf (yu P)) (lf (o44 P)))) (.node (o74 P) (.node (vC P) (.node (o43 P) (lf (Bb P)) .nil) (lf (xV P))) (.node (vj P) (lf (o43 P)) (lf (o43 P))))) (.node (o59 P) (.node (o44 P) (.node (o74 P) (.node (yE P) (lf (o44 P)) .nil) (lf (o43 P))) (.node (vn P) (lf (yp P)) (lf (zS P)))) (.node (o97 P) (.node (wR P) (.node (Ak P) (lf (zy P)) .nil) (lf (o43 P))) (.node (wM P) (lf (o44 P)) (lf (Bf P)))))) (.node (o43 P) (.node (o55 P) (.node (o74 P) (.node (tl P) (.node (Ao P) (lf (Bd P)) .nil) (lf (yd P))) (.node (vq P) (lf (yr P)) (lf (zU P)))) (.node (o44 P) (.node (o43 P) (.node (o43 P) (lf (o44 P)) .nil) (lf (o44 P))) (.node (vf P) (lf (Ag P)) (lf (o43 P))))) (.node (o63 P) (.node (o82 P) (.node (o44 P) (.node (yC P) (lf (o43 P)) .nil) (lf (xZ P))) (.node (vm P) (lf (o43 P)) (lf (zQ P)))) (.node (o74 P) (.node (o44 P) (.node (o44 P) (lf (AZ P)) .nil) (lf (Bj P))) (.node (yF P) (lf (yh P)) (lf (o44 P))))))) (.node (boot_o_5 P) (.node (boot_o_9 P) (.node (o53 P) (.node (o69 P) (.node (vG P) (.node (o43 P) (lf (zH P)) .nil) (lf (Ae P))) (.node (o43 P) (lf (o43 P)) (lf (o43 P)))) (.node (o91 P) (.node (wV P) (.node (yA P) (lf (zA P)) .nil) (lf (Ab P))) (.node (wN P) (lf (yl P)) (lf (zO P))))) (.node (o43 P) (.node (o80 P) (.node (wY P) (.node (Am P) (lf (zE P)) .nil) (lf (yb P))) (.node (o44 P) (lf (o44 P)) (lf (Bh P)))) (.node (o99 P) (.node (vy P) (.node (yw P) (lf (o43 P)) .nil) (lf (zY P))) (.node (o43 P) (lf (o43 P)) (lf (zK P)))))) (.node (o45 P) (.node (o57 P) (.node (o76 P) (.node (vF P) (.node (o43 P) (lf (zF P)) .nil) (lf (o44 P))) (.node (wP P) (lf (Ai P)) (lf (o43 P)))) (.node (o95 P) (.node (vA P) (.node (yy P) (lf (o43 P)) .nil) (lf (Aa P))) (.node (o44 P) (lf (yj P)) (lf (zM P))))) (.node (o43 P) (.node (o84 P) (.node (wW P) (.node (o44 P) (lf (zC P)) .nil) (lf (xX P))) (.node (o43 P) (lf (yn P)) (lf (o44 P)))) (.node (vI P) (.node (o43 P) (.node (o43 P) (lf (zv P)) .nil) (lf (zW P))) (.node (wJ P) (lf (o43 P)) (lf (zJ P)))))))) (.node (boot_o_2 P) (.node (boot_o_4 P) (.node (boot_o_8 P) (.node (o44 P) (.node (o68 P) (.node (vH P) (.node (Aq P) (lf (o44 P)) .nil) (lf (o43 P))) (.node (vr P) (lf (yt P)) (lf (zV P)))) (.node (o59 P) (.node (vB P) (.node (Al P) (lf (zB P)) .nil) (lf (Ac P))) (.node (o43 P) (lf (o44 P)) (lf (Bg P))))) (.node (o60 P) (.node (o79 P) (.node (o59 P) (.node (o43 P) (lf (Bc P)) .nil) (lf (Ad P))) (.node (o43 P) (lf (o43 P)) (lf (o43 P)))) (.node (o98 P) (.node (vz P) (.node (yx P) (lf (zx P)) .nil) (lf (o44 P))) (.node (wL P) (lf (yi P)) (lf (zL P)))))) (.node (CT P) (.node (o56 P) (.node (o59 P) (.node (tj P) (.node (An P) (lf (zG P)) .nil) (lf (o43 P))) (.node (o43 P) (lf (o43 P)) (lf (zT P)))) (.node (o94 P) (.node (o44 P) (.node (o44 P) (lf (zz P)) .nil) (lf (Bk P))) (.node (o43 P) (lf (yk P)) (lf (o44 P))))) (.node (o64 P) (.node (o83 P) (.node (wX P) (.node (o43 P) (lf (o44 P)) .nil) (lf (xY P))) (.node (vk P) (lf (Ah P)) (lf (o43 P)))) (.node (o59 P) (.node (vv P) (.node (yv P) (lf (zw P)) .nil) (lf (zX P))) (.node (wK P) (lf (yg P)) (lf (Be P))))))) (.node (boot_o_6 P) (.node (boot_o_10 P) (.node (o43 P) (.node (o70 P) (.node (o43 P) (.node (Ap P) (lf (o43 P)) .nil) (lf (ye P))) (.node (o44 P) (lf (o44 P)) (lf (Bi P)))) (.node (o43 P) (.node (wU P) (.node (yz P) (lf (o43 P)) .nil) (lf (o43 P))) (.node (vg P) (lf (o43 P)) (lf (zN P))))) (.node (o44 P) (.node (o43 P) (.node (o43 P) (.node (yD P) (lf (zD P)) .nil) (lf (ya P))) (.node (wO P) (lf (yo P)) (lf (zR P)))) (.node (tm P) (.node (o43 P) (.node (o43 P) (lf (o44 P)) .nil) (lf (o43 P))) (.node (o44 P) (lf (Af P)) (lf (o43 P)))))) (.node (o46 P) (.node (o58 P) (.node (o43 P) (.node (vE P) (.node (o44 P) (lf (o43 P)) .nil) (lf (yc P))) (.node (vp P) (lf (yq P)) (lf (o44 P)))) (.node (o43 P) (.node (o43 P) (.node (o43 P) (lf (Ba P)) .nil) (lf (zZ P))) (.node (yG P) (lf (o43 P)) (lf (o43 P))))) (.node (o66 P) (.node (o85 P) (.node (o43 P) (.node (yB P) (lf (o43 P)) .nil) (lf (xW P))) (.node (o44 P) (lf (ym P)) (lf (zP P)))) (.node (o43 P) (.node (wQ P) (lf (Aj P)) (lf (o43 P))) (.node (o43 P) (lf (o44 P)) (lf (zI P))))))))))
noncomputable def mD:Params→W.BT:=(fun P=>(.node (boot_o_0 P) (.node (boot_o_1 P) (.node (boot_o_3 P) (lf (boot_o_7 P)) (lf (o43 P))) (.node (boot_o_5 P) (lf (boot_o_9 P)) (lf (o45 P)))) (.node (boot_o_2 P) (.node (boot_o_4 P) (lf (boot_o_8 P)) (lf (o44 P))) (.node (boot_o_6 P) (lf (boot_o_10 P)) (lf (o46 P))))))
noncomputable def aj:Params→Heap:=(fun P=>⟨⟨[(boot_o_0 P),(boot_o_1 P),(boot_o_2 P),(AY P),(boot_o_4 P),(boot_o_5 P),(boot_o_6 P),(boot_o_7 P),(boot_o_8 P),(boot_o_9 P),(boot_o_10 P),(o43 P),(Cd P),(o45 P),(o46 P),(o43 P),(o44 P),(o53 P),(o43 P),(o55 P),(o56 P),(o57 P),(o58 P),(o59 P),(o60 P),(o43 P),(o44 P),(o63 P),(o64 P),(o43 P),(o66 P),(vD P),(o68 P),(o69 P),(o70 P),(o74 P),(o59 P),(o76 P),(o43 P),(o44 P),(o79 P),(o80 P),(o43 P),(o82 P),(o83 P),(o84 P),(o85 P),(o74 P),(o59 P),(o91 P),(o43 P),(o44 P),(o94 P),(o95 P),(o43 P),(o97 P),(o98 P),(o99 P),(tm P),(o74 P),(o59 P),(vI P),(o43 P),(o44 P),(vH P),(vG P),(o43 P),(tl P),(tj P),(vF P),(vE P),(o74 P),(o59 P),(wY P),(o43 P),(o44 P),(wX P),(wW P),(o43 P),(vC P),(vB P),(wV P),(wU P),(o43 P),(o44 P),(vA P),(o43 P),(wR P),(vz P),(vy P),(o43 P),(o44 P),(vv P),(o43 P),(wQ P),(vt P),(vr P),(o43 P),(o44 P),(vq P),(o43 P),(wP P),(vp P),(vn P),(o43 P),(o44 P),(wO P),(vm P),(vk P),(o43 P),(o44 P),(vj P),(o43 P),(wN P),(vg P),(vf P),(o43 P),(o44 P),(yG P),(wM P),(wL P),(o43 P),(o44 P),(yF P),(wK P),(wJ P),(o43 P),(o59 P),(Aq P),(o43 P),(Ap P),(Ao P),(An P),(o43 P),(o44 P),(yE P),(o43 P),(Am P),(yD P),(yC P),(o43 P),(o44 P),(yB P),(o43 P),(Al P),(yA P),(yz P),(o43 P),(o44 P),(yy P),(o43 P),(Ak P),(yx P),(yw P),(o43 P),(o44 P),(yv P),(o43 P),(Aj P),(yu P),(yt P),(o43 P),(o44 P),(yr P),(o43 P),(Ai P),(yq P),(yp P),(o43 P),(o44 P),(yo P),(o43 P),(Ah P),(yn P),(ym P),(o43 P),(o44 P),(yl P),(o43 P),(Ag P),(yk P),(yj P),(o43 P),(o44 P),(yi P),(o43 P),(Af P),(yh P),(yg P),(o43 P),(o44 P),(yf P),(o43 P),(Ae P),(ye P),(yd P),(o43 P),(o44 P),(yc P),(o43 P),(Ad P),(yb P),(ya P),(xZ P),(xY P),(xX P),(xW P),(xV P),(Ac P),(Ab P),(o43 P),(o44 P),(Bk P),(Aa P),(zZ P),(o43 P),(o44 P),(zY P),(o43 P),(Bj P),(zX P),(zW P),(o43 P),(o44 P),(zV P),(o43 P),(Bi P),(zU P),(zT P),(o43 P),(o44 P),(zS P),(o43 P),(Bh P),(zR P),(zQ P),(o43 P),(o44 P),(zP P),(o43 P),(Bg P),(zO P),(zN P),(o43 P),(o44 P),(zM P),(o43 P),(Bf P),(zL P),(zK P),(o43 P),(o44 P),(Be P),(zJ P),(zI P),(o43 P),(o44 P),(zH P),(o43 P),(Bd P),(zG P),(zF P),(o43 P),(o44 P),(Bc P),(zE P),(zD P),(o43 P),(o44 P),(zC P),(o43 P),(Bb P),(zB P),(zA P),(o43 P),(o44 P),(zz P),(o43 P),(Ba P),(zy P),(zx P),(o43 P),(o44 P),(AZ P),(zw P),(zv P),(o43 P),(o44 P),(AX P),(o43 P),(Cc P),(AW P),(AV P),(o43 P),(o44 P),(Cb P),(AU P),(AR P)]⟩,⟨[],[],[],0,[],[],.false,⟨[]⟩,[],0,.false,.false,.false,0,[2000,10,10],.false,0,.true,[],[],0,.false⟩⟩)
noncomputable def jr:Params→W.BT:=(fun P=>(.node (boot_o_0 P) (.node (boot_o_1 P) (.node (Da P) (.node (boot_o_7 P) (.node (o43 P) (.node (vD P) (lf (o44 P)) (lf (vt P))) (.node (o74 P) (lf (vC P)) (lf (vj P)))) (.node (o59 P) (.node (o44 P) (lf (o74 P)) (lf (vn P))) (.node (o97 P) (lf (wR P)) .nil))) (.node (o43 P) (.node (o55 P) (.node (o74 P) (lf (tl P)) (lf (vq P))) (.node (o44 P) (lf (o43 P)) (lf (vf P)))) (.node (o63 P) (.node (o82 P) (lf (o44 P)) (lf (vm P))) (.node (o74 P) (lf (o44 P)) .nil)))) (.node (boot_o_5 P) (.node (boot_o_9 P) (.node (o53 P) (.node (o69 P) (lf (vG P)) (lf (o43 P))) (.node (o91 P) (lf (wV P)) (lf (wN P)))) (.node (o43 P) (.node (o80 P) (lf (wY P)) (lf (o44 P))) (.node (o99 P) (lf (vy P)) .nil))) (.node (o45 P) (.node (o57 P) (.node (o76 P) (lf (vF P)) (lf (wP P))) (.node (o95 P) (lf (vA P)) .nil)) (.node (o43 P) (.node (o84 P) (lf (wW P)) (lf (o43 P))) (.node (vI P) (lf (o43 P)) .nil))))) (.node (boot_o_2 P) (.node (boot_o_4 P) (.node (boot_o_8 P) (.node (o44 P) (.node (o68 P) (lf (vH P)) (lf (vr P))) (.node (o59 P) (lf (vB P)) (lf (o43 P)))) (.node (o60 P) (.node (o79 P) (lf (o59 P)) (lf (o43 P))) (.node (o98 P) (lf (vz P)) .nil))) (.node (CZ P) (.node (o56 P) (.node (o59 P) (lf (tj P)) (lf (o43 P))) (.node (o94 P) (lf (o44 P)) .nil)) (.node (o64 P) (.node (o83 P) (lf (wX P)) (lf (vk P))) (.node (o59 P) (lf (vv P)) .nil)))) (.node (boot_o_6 P) (.node (boot_o_10 P) (.node (o43 P) (.node (o70 P) (lf (o43 P)) (lf (o44 P))) (.node (o43 P) (lf (wU P)) (lf (vg P)))) (.node (o44 P) (.node (o43 P) (lf (o43 P)) (lf (wO P))) (.node (tm P) (lf (o43 P)) .nil))) (.node (o46 P) (.node (o58 P) (.node (o43 P) (lf (vE P)) (lf (vp P))) (.node (o43 P) (lf (o43 P)) .nil)) (.node (o66 P) (.node (o85 P) (lf (o43 P)) (lf (o44 P))) (.node (o43 P) (lf (wQ P)) .nil)))))))
noncomputable def jk:Params→W.BT:=(fun P=>(.node (boot_o_0 P) (.node (boot_o_1 P) (.node (AY P) (.node (boot_o_7 P) (.node (o43 P) (.node (vD P) (.node (o44 P) (.node (o59 P) (lf (o43 P)) .nil) (lf (yf P))) (.node (vt P) (.node (yu P) (lf (o44 P)) .nil) (lf (o44 P)))) (.node (o74 P) (.node (vC P) (.node (o43 P) (lf (Bb P)) .nil) (lf (xV P))) (.node (vj P) (lf (o43 P)) (lf (o43 P))))) (.node (o59 P) (.node (o44 P) (.node (o74 P) (.node (yE P) (lf (o44 P)) .nil) (lf (o43 P))) (.node (vn P) (.node (yp P) (lf (Cb P)) .nil) (lf (zS P)))) (.node (o97 P) (.node (wR P) (.node (Ak P) (lf (zy P)) .nil) (lf (o43 P))) (.node (wM P) (lf (o44 P)) (lf (Bf P)))))) (.node (o43 P) (.node (o55 P) (.node (o74 P) (.node (tl P) (.node (Ao P) (lf (Bd P)) .nil) (lf (yd P))) (.node (vq P) (.node (yr P) (lf (AW P)) .nil) (lf (zU P)))) (.node (o44 P) (.node (o43 P) (.node (o43 P) (lf (o44 P)) .nil) (lf (o44 P))) (.node (vf P) (lf (Ag P)) (lf (o43 P))))) (.node (o63 P) (.node (o82 P) (.node (o44 P) (.node (yC P) (lf (o43 P)) .nil) (lf (xZ P))) (.node (vm P) (lf (o43 P)) (lf (zQ P)))) (.node (o74 P) (.node (o44 P) (.node (o44 P) (lf (AZ P)) .nil) (lf (Bj P))) (.node (yF P) (lf (yh P)) (lf (o44 P))))))) (.node (boot_o_5 P) (.node (boot_o_9 P) (.node (o53 P) (.node (o69 P) (.node (vG P) (.node (o43 P) (lf (zH P)) .nil) (lf (Ae P))) (.node (o43 P) (.node (o43 P) (lf (o43 P)) .nil) (lf (o43 P)))) (.node (o91 P) (.node (wV P) (.node (yA P) (lf (zA P)) .nil) (lf (Ab P))) (.node (wN P) (lf (yl P)) (lf (zO P))))) (.node (o43 P) (.node (o80 P) (.node (wY P) (.node (Am P) (lf (zE P)) .nil) (lf (yb P))) (.node (o44 P) (.node (o44 P) (lf (AR P)) .nil) (lf (Bh P)))) (.node (o99 P) (.node (vy P) (.node (yw P) (lf (o43 P)) .nil) (lf (zY P))) (.node (o43 P) (lf (o43 P)) (lf (zK P)))))) (.node (o45 P) (.node (o57 P) (.node (o76 P) (.node (vF P) (.node (o43 P) (lf (zF P)) .nil) (lf (o44 P))) (.node (wP P) (.node (Ai P) (lf (o43 P)) .nil) (lf (o43 P)))) (.node (o95 P) (.node (vA P) (.node (yy P) (lf (o43 P)) .nil) (lf (Aa P))) (.node (o44 P) (lf (yj P)) (lf (zM P))))) (.node (o43 P) (.node (o84 P) (.node (wW P) (.node (o44 P) (lf (zC P)) .nil) (lf (xX P))) (.node (o43 P) (lf (yn P)) (lf (o44 P)))) (.node (vI P) (.node (o43 P) (.node (o43 P) (lf (zv P)) .nil) (lf (zW P))) (.node (wJ P) (lf (o43 P)) (lf (zJ P)))))))) (.node (boot_o_2 P) (.node (boot_o_4 P) (.node (boot_o_8 P) (.node (o44 P) (.node (o68 P) (.node (vH P) (.node (Aq P) (lf (o44 P)) .nil) (lf (o43 P))) (.node (vr P) (.node (yt P) (lf (AX P)) .nil) (lf (zV P)))) (.node (o59 P) (.node (vB P) (.node (Al P) (lf (zB P)) .nil) (lf (Ac P))) (.node (o43 P) (lf (o44 P)) (lf (Bg P))))) (.node (o60 P) (.node (o79 P) (.node (o59 P) (.node (o43 P) (lf (Bc P)) .nil) (lf (Ad P))) (.node (o43 P) (.node (o43 P) (lf (AU P)) .nil) (lf (o43 P)))) (.node (o98 P) (.node (vz P) (.node (yx P) (lf (zx P)) .nil) (lf (o44 P))) (.node (wL P) (lf (yi P)) (lf (zL P)))))) (.node (Cd P) (.node (o56 P) (.node (o59 P) (.node (tj P) (.node (An P) (lf (zG P)) .nil) (lf (o43 P))) (.node (o43 P) (.node (o43 P) (lf (AV P)) .nil) (lf (zT P)))) (.node (o94 P) (.node (o44 P) (.node (o44 P) (lf (zz P)) .nil) (lf (Bk P))) (.node (o43 P) (lf (yk P)) (lf (o44 P))))) (.node (o64 P) (.node (o83 P) (.node (wX P) (.node (o43 P) (lf (o44 P)) .nil) (lf (xY P))) (.node (vk P) (lf (Ah P)) (lf (o43 P)))) (.node (o59 P) (.node (vv P) (.node (yv P) (lf (zw P)) .nil) (lf (zX P))) (.node (wK P) (lf (yg P)) (lf (Be P))))))) (.node (boot_o_6 P) (.node (boot_o_10 P) (.node (o43 P) (.node (o70 P) (.node (o43 P) (.node (Ap P) (lf (o43 P)) .nil) (lf (ye P))) (.node (o44 P) (.node (o44 P) (lf (Cc P)) .nil) (lf (Bi P)))) (.node (o43 P) (.node (wU P) (.node (yz P) (lf (o43 P)) .nil) (lf (o43 P))) (.node (vg P) (lf (o43 P)) (lf (zN P))))) (.node (o44 P) (.node (o43 P) (.node (o43 P) (.node (yD P) (lf (zD P)) .nil) (lf (ya P))) (.node (wO P) (lf (yo P)) (lf (zR P)))) (.node (tm P) (.node (o43 P) (.node (o43 P) (lf (o44 P)) .nil) (lf (o43 P))) (.node (o44 P) (lf (Af P)) (lf (o43 P)))))) (.node (o46 P) (.node (o58 P) (.node (o43 P) (.node (vE P) (.node (o44 P) (lf (o43 P)) .nil) (lf (yc P))) (.node (vp P) (.node (yq P) (lf (o44 P)) .nil) (lf (o44 P)))) (.node (o43 P) (.node (o43 P) (.node (o43 P) (lf (Ba P)) .nil) (lf (zZ P))) (.node (yG P) (lf (o43 P)) (lf (o43 P))))) (.node (o66 P) (.node (o85 P) (.node (o43 P) (.node (yB P) (lf (o43 P)) .nil) (lf (xW P))) (.node (o44 P) (lf (ym P)) (lf (zP P)))) (.node (o43 P) (.node (wQ P) (.node (Aj P) (lf (o43 P)) .nil) (lf (o43 P))) (.node (o43 P) (lf (o44 P)) (lf (zI P))))))))))
noncomputable def mB:Params→W.BT:=(fun P=>(.node (boot_o_0 P) (.node (boot_o_1 P) (.node (o71 P) (.node (boot_o_7 P) (.node (o43 P) (lf (o73 P)) .nil) (.node (o59 P) (lf (o44 P)) .nil)) (.node (o43 P) (.node (o55 P) (lf (o74 P)) .nil) (.node (o63 P) (lf (o82 P)) .nil))) (.node (boot_o_5 P) (.node (boot_o_9 P) (.node (o53 P) (lf (o69 P)) .nil) (.node (o43 P) (lf (o80 P)) .nil)) (.node (o45 P) (.node (o57 P) (lf (o76 P)) .nil) (.node (o43 P) (lf (o84 P)) .nil)))) (.node (boot_o_2 P) (.node (boot_o_4 P) (.node (boot_o_8 P) (.node (o44 P) (lf (o68 P)) .nil) (.node (o60 P) (lf (o79 P)) .nil)) (.node (o72 P) (.node (o56 P) (lf (o59 P)) .nil) (.node (o64 P) (lf (o83 P)) .nil))) (.node (boot_o_6 P) (.node (boot_o_10 P) (.node (o43 P) (lf (o70 P)) .nil) (.node (o44 P) (lf (o43 P)) .nil)) (.node (o46 P) (.node (o58 P) (lf (o43 P)) .nil) (.node (o66 P) (lf (o85 P)) .nil))))))
noncomputable def aC:Env:=⟨(Module.scope (Program.main prog)),mainNs,mainNs,[],Str.empty,.none,(.ref 13),(.some 14),0⟩
noncomputable def jo:Params→W.BT:=(fun P=>(.node (boot_o_0 P) (.node (boot_o_1 P) (.node (CY P) (.node (boot_o_7 P) (.node (o43 P) (.node (vD P) (lf (o44 P)) (lf (vt P))) (.node (o74 P) (lf (vC P)) (lf (vj P)))) (.node (o59 P) (.node (o44 P) (lf (o74 P)) (lf (vn P))) (.node (o97 P) (lf (wR P)) (lf (wM P))))) (.node (o43 P) (.node (o55 P) (.node (o74 P) (lf (tl P)) (lf (vq P))) (.node (o44 P) (lf (o43 P)) (lf (vf P)))) (.node (o63 P) (.node (o82 P) (lf (o44 P)) (lf (vm P))) (.node (o74 P) (lf (o44 P)) (lf (yF P)))))) (.node (boot_o_5 P) (.node (boot_o_9 P) (.node (o53 P) (.node (o69 P) (lf (vG P)) (lf (o43 P))) (.node (o91 P) (lf (wV P)) (lf (wN P)))) (.node (o43 P) (.node (o80 P) (lf (wY P)) (lf (o44 P))) (.node (o99 P) (lf (vy P)) (lf (o43 P))))) (.node (o45 P) (.node (o57 P) (.node (o76 P) (lf (vF P)) (lf (wP P))) (.node (o95 P) (lf (vA P)) (lf (o44 P)))) (.node (o43 P) (.node (o84 P) (lf (wW P)) (lf (o43 P))) (.node (vI P) (lf (o43 P)) (lf (wJ P))))))) (.node (boot_o_2 P) (.node (boot_o_4 P) (.node (boot_o_8 P) (.node (o44 P) (.node (o68 P) (lf (vH P)) (lf (vr P))) (.node (o59 P) (lf (vB P)) (lf (o43 P)))) (.node (o60 P) (.node (o79 P) (lf (o59 P)) (lf (o43 P))) (.node (o98 P) (lf (vz P)) (lf (wL P))))) (.node (CX P) (.node (o56 P) (.node (o59 P) (lf (tj P)) (lf (o43 P))) (.node (o94 P) (lf (o44 P)) (lf (o43 P)))) (.node (o64 P) (.node (o83 P) (lf (wX P)) (lf (vk P))) (.node (o59 P) (lf (vv P)) (lf (wK P)))))) (.node (boot_o_6 P) (.node (boot_o_10 P) (.node (o43 P) (.node (o70 P) (lf (o43 P)) (lf (o44 P))) (.node (o43 P) (lf (wU P)) (lf (vg P)))) (.node (o44 P) (.node (o43 P) (lf (o43 P)) (lf (wO P))) (.node (tm P) (lf (o43 P)) (lf (o44 P))))) (.node (o46 P) (.node (o58 P) (.node (o43 P) (lf (vE P)) (lf (vp P))) (.node (o43 P) (lf (o43 P)) (lf (yG P)))) (.node (o66 P) (.node (o85 P) (lf (o43 P)) (lf (o44 P))) (.node (o43 P) (lf (wQ P)) .nil)))))))
noncomputable def jn:Params→W.BT:=(fun P=>(.node (boot_o_0 P) (.node (boot_o_1 P) (.node (CW P) (.node (boot_o_7 P) (.node (o43 P) (.node (vD P) (.node (o44 P) (lf (o59 P)) (lf (yf P))) (.node (vt P) (lf (yu P)) .nil)) (.node (o74 P) (.node (vC P) (lf (o43 P)) (lf (xV P))) (.node (vj P) (lf (o43 P)) .nil))) (.node (o59 P) (.node (o44 P) (.node (o74 P) (lf (yE P)) (lf (o43 P))) (.node (vn P) (lf (yp P)) .nil)) (.node (o97 P) (.node (wR P) (lf (Ak P)) .nil) (.node (wM P) (lf (o44 P)) .nil)))) (.node (o43 P) (.node (o55 P) (.node (o74 P) (.node (tl P) (lf (Ao P)) (lf (yd P))) (.node (vq P) (lf (yr P)) .nil)) (.node (o44 P) (.node (o43 P) (lf (o43 P)) .nil) (.node (vf P) (lf (Ag P)) .nil))) (.node (o63 P) (.node (o82 P) (.node (o44 P) (lf (yC P)) (lf (xZ P))) (.node (vm P) (lf (o43 P)) .nil)) (.node (o74 P) (.node (o44 P) (lf (o44 P)) .nil) (.node (yF P) (lf (yh P)) .nil))))) (.node (boot_o_5 P) (.node (boot_o_9 P) (.node (o53 P) (.node (o69 P) (.node (vG P) (lf (o43 P)) (lf (Ae P))) (.node (o43 P) (lf (o43 P)) .nil)) (.node (o91 P) (.node (wV P) (lf (yA P)) (lf (Ab P))) (.node (wN P) (lf (yl P)) .nil))) (.node (o43 P) (.node (o80 P) (.node (wY P) (lf (Am P)) (lf (yb P))) (.node (o44 P) (lf (o44 P)) .nil)) (.node (o99 P) (.node (vy P) (lf (yw P)) .nil) (.node (o43 P) (lf (o43 P)) .nil)))) (.node (o45 P) (.node (o57 P) (.node (o76 P) (.node (vF P) (lf (o43 P)) (lf (o44 P))) (.node (wP P) (lf (Ai P)) .nil)) (.node (o95 P) (.node (vA P) (lf (yy P)) .nil) (.node (o44 P) (lf (yj P)) .nil))) (.node (o43 P) (.node (o84 P) (.node (wW P) (lf (o44 P)) (lf (xX P))) (.node (o43 P) (lf (yn P)) .nil)) (.node (vI P) (.node (o43 P) (lf (o43 P)) .nil) (.node (wJ P) (lf (o43 P)) .nil)))))) (.node (boot_o_2 P) (.node (boot_o_4 P) (.node (boot_o_8 P) (.node (o44 P) (.node (o68 P) (.node (vH P) (lf (Aq P)) (lf (o43 P))) (.node (vr P) (lf (yt P)) .nil)) (.node (o59 P) (.node (vB P) (lf (Al P)) (lf (Ac P))) (.node (o43 P) (lf (o44 P)) .nil))) (.node (o60 P) (.node (o79 P) (.node (o59 P) (lf (o43 P)) (lf (Ad P))) (.node (o43 P) (lf (o43 P)) .nil)) (.node (o98 P) (.node (vz P) (lf (yx P)) .nil) (.node (wL P) (lf (yi P)) .nil)))) (.node (CV P) (.node (o56 P) (.node (o59 P) (.node (tj P) (lf (An P)) (lf (o43 P))) (.node (o43 P) (lf (o43 P)) .nil)) (.node (o94 P) (.node (o44 P) (lf (o44 P)) .nil) (.node (o43 P) (lf (yk P)) .nil))) (.node (o64 P) (.node (o83 P) (.node (wX P) (lf (o43 P)) (lf (xY P))) (.node (vk P) (lf (Ah P)) .nil)) (.node (o59 P) (.node (vv P) (lf (yv P)) .nil) (.node (wK P) (lf (yg P)) .nil))))) (.node (boot_o_6 P) (.node (boot_o_10 P) (.node (o43 P) (.node (o70 P) (.node (o43 P) (lf (Ap P)) (lf (ye P))) (.node (o44 P) (lf (o44 P)) .nil)) (.node (o43 P) (.node (wU P) (lf (yz P)) .nil) (.node (vg P) (lf (o43 P)) .nil))) (.node (o44 P) (.node (o43 P) (.node (o43 P) (lf (yD P)) (lf (ya P))) (.node (wO P) (lf (yo P)) .nil)) (.node (tm P) (.node (o43 P) (lf (o43 P)) .nil) (.node (o44 P) (lf (Af P)) .nil)))) (.node (o46 P) (.node (o58 P) (.node (o43 P) (.node (vE P) (lf (o44 P)) (lf (yc P))) (.node (vp P) (lf (yq P)) .nil)) (.node (o43 P) (.node (o43 P) (lf (o43 P)) .nil) (.node (yG P) (lf (o43 P)) .nil))) (.node (o66 P) (.node (o85 P) (.node (o43 P) (lf (yB P)) (lf (xW P))) (.node (o44 P) (lf (ym P)) .nil)) (.node (o43 P) (.node (wQ P) (lf (Aj P)) .nil) (.node (o43 P) (lf (o44 P)) .nil))))))))
noncomputable def jt:Params→W.BT:=(fun P=>(.node (boot_o_0 P) (.node (boot_o_1 P) (.node (o86 P) (.node (boot_o_7 P) (.node (o43 P) (lf (o88 P)) (lf (o74 P))) (.node (o59 P) (lf (o44 P)) (lf (o97 P)))) (.node (o43 P) (.node (o55 P) (lf (o74 P)) (lf (o44 P))) (.node (o63 P) (lf (o82 P)) .nil))) (.node (boot_o_5 P) (.node (boot_o_9 P) (.node (o53 P) (lf (o69 P)) (lf (o91 P))) (.node (o43 P) (lf (o80 P)) (lf (o99 P)))) (.node (o45 P) (.node (o57 P) (lf (o76 P)) (lf (o95 P))) (.node (o43 P) (lf (o84 P)) .nil)))) (.node (boot_o_2 P) (.node (boot_o_4 P) (.node (boot_o_8 P) (.node (o44 P) (lf (o68 P)) (lf (o59 P))) (.node (o60 P) (lf (o79 P)) (lf (o98 P)))) (.node (o87 P) (.node (o56 P) (lf (o59 P)) (lf (o94 P))) (.node (o64 P) (lf (o83 P)) .nil))) (.node (boot_o_6 P) (.node (boot_o_10 P) (.node (o43 P) (lf (o70 P)) (lf (o43 P))) (.node (o44 P) (lf (o43 P)) (lf (tm P)))) (.node (o46 P) (.node (o58 P) (lf (o43 P)) (lf (o43 P))) (.node (o66 P) (lf (o85 P)) .nil))))))
noncomputable def js:Params→W.BT:=(fun P=>(.node (boot_o_0 P) (.node (boot_o_1 P) (.node (Dd P) (.node (boot_o_7 P) (.node (o43 P) (.node (Db P) (lf (o44 P)) .nil) (lf (o74 P))) (.node (o59 P) (lf (o44 P)) (lf (o97 P)))) (.node (o43 P) (.node (o55 P) (.node (o74 P) (lf (tl P)) .nil) (lf (o44 P))) (.node (o63 P) (lf (o82 P)) (lf (o74 P))))) (.node (boot_o_5 P) (.node (boot_o_9 P) (.node (o53 P) (.node (o69 P) (lf (vG P)) .nil) (lf (o91 P))) (.node (o43 P) (lf (o80 P)) (lf (o99 P)))) (.node (o45 P) (.node (o57 P) (.node (o76 P) (lf (vF P)) .nil) (lf (o95 P))) (.node (o43 P) (lf (o84 P)) (lf (vI P)))))) (.node (boot_o_2 P) (.node (boot_o_4 P) (.node (boot_o_8 P) (.node (o44 P) (.node (o68 P) (lf (vH P)) .nil) (lf (o59 P))) (.node (o60 P) (lf (o79 P)) (lf (o98 P)))) (.node (Dc P) (.node (o56 P) (.node (o59 P) (lf (tj P)) .nil) (lf (o94 P))) (.node (o64 P) (lf (o83 P)) (lf (o59 P))))) (.node (boot_o_6 P) (.node (boot_o_10 P) (.node (o43 P) (.node (o70 P) (lf (o43 P)) .nil) (lf (o43 P))) (.node (o44 P) (lf (o43 P)) (lf (tm P)))) (.node (o46 P) (.node (o58 P) (.node (o43 P) (lf (vE P)) .nil) (lf (o43 P))) (.node (o66 P) (lf (o85 P)) (lf (o43 P))))))))
noncomputable def nu:Params→Heap:=(fun P=>⟨⟨[(boot_o_0 P),(boot_o_1 P),(boot_o_2 P),(boot_o_3 P),(boot_o_4 P),(boot_o_5 P),(boot_o_6 P),(boot_o_7 P),(boot_o_8 P),(boot_o_9 P),(boot_o_10 P),(o43 P),(o44 P),(o45 P),(o46 P)]⟩,⟨[],[],[],0,[],[],.false,⟨[]⟩,[],0,.false,.false,.false,0,[2000,10,10],.false,0,.true,[],[],0,.false⟩⟩)
noncomputable def uk:List Stmt:=[st 0,st 1,st 2]
noncomputable def uj:List Stmt:=[st 3]
noncomputable def ui:List Stmt:=[st 4]
noncomputable def pF:List Stmt:=[st 5]
noncomputable def pE:List Stmt:=[st 6,st 7,st 8,st 9,st 10,st 11,st 12,st 13,st 14]
noncomputable def pD:List Stmt:=[st 15,st 16,st 17]
noncomputable def pC:List Stmt:=[st 18]
noncomputable def pB:List Stmt:=[st 19,st 20,st 21,st 22,st 23,st 24,st 25,st 26,st 27,st 28,st 29,st 30,st 31,st 32]
noncomputable def pA:List Stmt:=[st 33,st 34]
noncomputable def ar:Program:={ prog with main:={ prog.main with body:=[st 0,st 2,st 3,st 4,st 5,st 6,st 8,st 9,st 10,st 11,st 13,st 14,st 15,st 16,st 18,st 20,st 21,st 22,st 24,st 25,st 26,st 27,st 28,st 29,st 30,st 31,st 32,st 33,st 34]}}
noncomputable def ads:List Addr:=[2,3,15,17,18,20,21,22,29,30,31,32,35,42,43,44,47,54,55,56,59,66,67,68,71,78,79,80,83,85,86,88,89,90,92,93,95,96,97,99,100,102,103,104,107,108,109,111,112,114,115,116,119,120,121,124,125,133,135,136,138,139,140,142,143,145,146,147,149,150,152,153,154,156,157,159,160,161,163,164,166,167,168,170,171,173,174,175,177,178,180,181,182,184,185,187,188,189,191,192,194,195,196,198,199,201,202,203,204,205,206,207,210,213,214,215,217,218,220,221,222,224,225,227,228,229,231,232,234,235,236,238,239,241,242,243,245,246,248,249,250,253,254,255,257,258,260,261,262,265,266,267,269,270,272,273,274,276,277,279,280,281,284,285,286,288,289,291,292,293,296,297]
noncomputable def nv:Params→Frag:=fun P=>[(2,boot_o_2 P),(3,AY P),(15,o43 P),(17,o53 P),(18,o43 P),(20,o56 P),(21,o57 P),(22,o58 P),(29,o43 P),(30,o66 P),(31,vD P),(32,o68 P),(35,o74 P),(42,o43 P),(43,o82 P),(44,o83 P),(47,o74 P),(54,o43 P),(55,o97 P),(56,o98 P),(59,o74 P),(66,o43 P),(67,tl P),(68,tj P),(71,o74 P),(78,o43 P),(79,vC P),(80,vB P),(83,o43 P),(85,vA P),(86,o43 P),(88,vz P),(89,vy P),(90,o43 P),(92,vv P),(93,o43 P),(95,vt P),(96,vr P),(97,o43 P),(99,vq P),(100,o43 P),(102,vp P),(103,vn P),(104,o43 P),(107,vm P),(108,vk P),(109,o43 P),(111,vj P),(112,o43 P),(114,vg P),(115,vf P),(116,o43 P),(119,wM P),(120,wL P),(121,o43 P),(124,wK P),(125,wJ P),(133,o43 P),(135,yE P),(136,o43 P),(138,yD P),(139,yC P),(140,o43 P),(142,yB P),(143,o43 P),(145,yA P),(146,yz P),(147,o43 P),(149,yy P),(150,o43 P),(152,yx P),(153,yw P),(154,o43 P),(156,yv P),(157,o43 P),(159,yu P),(160,yt P),(161,o43 P),(163,yr P),(164,o43 P),(166,yq P),(167,yp P),(168,o43 P),(170,yo P),(171,o43 P),(173,yn P),(174,ym P),(175,o43 P),(177,yl P),(178,o43 P),(180,yk P),(181,yj P),(182,o43 P),(184,yi P),(185,o43 P),(187,yh P),(188,yg P),(189,o43 P),(191,yf P),(192,o43 P),(194,ye P),(195,yd P),(196,o43 P),(198,yc P),(199,o43 P),(201,yb P),(202,ya P),(203,xZ P),(204,xY P),(205,xX P),(206,xW P),(207,xV P),(210,o43 P),(213,Aa P),(214,zZ P),(215,o43 P),(217,zY P),(218,o43 P),(220,zX P),(221,zW P),(222,o43 P),(224,zV P),(225,o43 P),(227,zU P),(228,zT P),(229,o43 P),(231,zS P),(232,o43 P),(234,zR P),(235,zQ P),(236,o43 P),(238,zP P),(239,o43 P),(241,zO P),(242,zN P),(243,o43 P),(245,zM P),(246,o43 P),(248,zL P),(249,zK P),(250,o43 P),(253,zJ P),(254,zI P),(255,o43 P),(257,zH P),(258,o43 P),(260,zG P),(261,zF P),(262,o43 P),(265,zE P),(266,zD P),(267,o43 P),(269,zC P),(270,o43 P),(272,zB P),(273,zA P),(274,o43 P),(276,zz P),(277,o43 P),(279,zy P),(280,zx P),(281,o43 P),(284,zw P),(285,zv P),(286,o43 P),(288,AX P),(289,o43 P),(291,AW P),(292,AV P),(293,o43 P),(296,AU P),(297,AR P)]
noncomputable def hk:=kHook nv ads (fun _=>by kernel_rfl)
theorem i46: ∀ w:World,((fun os:OsState=>(Fast.tw15667345088766844465 Fast.tw14364793385576792824 prog w 11 (.some (.ref 6)) 12 ⟨(W.boot_heap (World.params w)),⟨[]⟩,W.boot_drawn,W.boot_toks,os⟩ (W.topStub prog)))=(fun os=>(.some ⟨⟨(nu (World.params w)),⟨[]⟩,⟨0,0,0,0⟩,187,os⟩,⟨(Fast.tw11892475500146522536 Fast.tw14364793385576792824 (.body (behindTheImports prog) aC)),(.body (behindTheImports prog) aC),⟨0,0,0,0⟩,[(topFrame ⟨0,0,0,0⟩)]⟩⟩))):=by intro w; kernel_rfl
theorem i48: ∀ w:World,((fun os:OsState=>(Fast.tw14374325043358763698 Fast.tw14364793385576792824 prog w 11 (.some (.ref 6)) 1 1 ⟨(nu (World.params w)),⟨[]⟩,⟨0,0,0,0⟩,187,os⟩ (W.blockOf (behindTheImports prog) aC (.body (behindTheImports prog) aC) ⟨0,0,0,0⟩ [(topFrame ⟨0,0,0,0⟩)])))=(fun os=>(.some ⟨.next,⟨(W.SharedT.abs ⟨(mD (World.params w)),15,⟨[],[],[],0,[],[],false,⟨[]⟩,[],0,false,false,false,0,[2000,10,10],false,0,true,[],[],0,false⟩,⟨[]⟩,⟨0,0,0,0⟩,187,os⟩),⟨(.body (behindTheImports prog) aC),⟨0,0,0,0⟩⟩⟩⟩))):=by intro w; kernel_rfl
theorem i70: ∀ w:World,((fun os:OsState=>(Fast.tw10110043849684766642 Fast.tw14364793385576792824 prog w 11 (.some (.ref 6)) 1 225 ⟨(mD (World.params w)),15,⟨[],[],[],0,[],[],false,⟨[]⟩,[],0,false,false,false,0,[2000,10,10],false,0,true,[],[],0,false⟩,⟨[]⟩,⟨0,0,0,0⟩,187,os⟩ (piecesOf uk aC (.body (behindTheImports prog) aC) ⟨0,0,0,0⟩ [(topFrame ⟨0,0,0,0⟩)])))=(fun os=>(.some ⟨.next,⟨⟨(mC (World.params w)),35,⟨[],[],[],0,[],[],false,⟨[]⟩,[],0,false,false,false,0,[2000,10,10],false,0,true,[],[],0,false⟩,⟨[]⟩,⟨0,0,0,0⟩,214,os⟩,⟨(.body (behindTheImports prog) aC),⟨5,0,6,8⟩⟩⟩⟩))):=by intro w; kernel_rfl
theorem i85: ∀ w:World,((fun os:OsState=>(Fast.tw10110043849684766642 Fast.tw14364793385576792824 prog w 11 (.some (.ref 6)) 1 214 ⟨(mC (World.params w)),35,⟨[],[],[],0,[],[],false,⟨[]⟩,[],0,false,false,false,0,[2000,10,10],false,0,true,[],[],0,false⟩,⟨[]⟩,⟨0,0,0,0⟩,214,os⟩ (piecesOf uj aC (.body (behindTheImports prog) aC) ⟨5,0,6,8⟩ [(topFrame ⟨0,0,0,0⟩)])))=(fun os=>(.some ⟨.next,⟨⟨(mB (World.params w)),47,⟨[],[],[],0,[],[],false,⟨[]⟩,[],0,false,false,false,0,[2000,10,10],false,0,true,[],[],0,false⟩,⟨[]⟩,⟨0,0,0,0⟩,230,os⟩,⟨(.body (behindTheImports prog) aC),⟨7,0,8,8⟩⟩⟩⟩))):=by intro w; kernel_rfl
theorem DD: ∀ w:World,((fun os:OsState=>(Fast.tw10110043849684766642 Fast.tw14364793385576792824 prog w 11 (.some (.ref 6)) 1 214 ⟨(mB (World.params w)),47,⟨[],[],[],0,[],[],false,⟨[]⟩,[],0,false,false,false,0,[2000,10,10],false,0,true,[],[],0,false⟩,⟨[]⟩,⟨0,0,0,0⟩,230,os⟩ (piecesOf ui aC (.body (behindTheImports prog) aC) ⟨7,0,8,8⟩ [(topFrame ⟨0,0,0,0⟩)])))=(fun os=>(.some ⟨.next,⟨⟨(jt (World.params w)),59,⟨[],[],[],0,[],[],false,⟨[]⟩,[],0,false,false,false,0,[2000,10,10],false,0,true,[],[],0,false⟩,⟨[]⟩,⟨0,0,0,0⟩,246,os⟩,⟨(.body (behindTheImports prog) aC),⟨9,0,10,8⟩⟩⟩⟩))):=by intro w; kernel_rfl
theorem DC: ∀ w:World,((fun os:OsState=>(Fast.tw10110043849684766642 Fast.tw14364793385576792824 prog w 11 (.some (.ref 6)) 1 214 ⟨(jt (World.params w)),59,⟨[],[],[],0,[],[],false,⟨[]⟩,[],0,false,false,false,0,[2000,10,10],false,0,true,[],[],0,false⟩,⟨[]⟩,⟨0,0,0,0⟩,246,os⟩ (piecesOf pF aC (.body (behindTheImports prog) aC) ⟨9,0,10,8⟩ [(topFrame ⟨0,0,0,0⟩)])))=(fun os=>(.some ⟨.next,⟨⟨(js (World.params w)),71,⟨[],[],[],0,[],[],false,⟨[]⟩,[],0,false,false,false,0,[2000,10,10],false,0,true,[],[],0,false⟩,⟨[]⟩,⟨0,0,0,0⟩,262,os⟩,⟨(.body (behindTheImports prog) aC),⟨11,0,12,8⟩⟩⟩⟩))):=by intro w; kernel_rfl
theorem DB: ∀ w:World,((fun os:OsState=>(Fast.tw10110043849684766642 Fast.tw14364793385576792824 prog w 11 (.some (.ref 6)) 1 388 ⟨(js (World.params w)),71,⟨[],[],[],0,[],[],false,⟨[]⟩,[],0,false,false,false,0,[2000,10,10],false,0,true,[],[],0,false⟩,⟨[]⟩,⟨0,0,0,0⟩,262,os⟩ (piecesOf pE aC (.body (behindTheImports prog) aC) ⟨11,0,12,8⟩ [(topFrame ⟨0,0,0,0⟩)])))=(fun os=>(.some ⟨.next,⟨⟨(jr (World.params w)),116,⟨[],[],[],0,[],[],false,⟨[]⟩,[],0,false,false,false,0,[2000,10,10],false,0,true,[],[],0,false⟩,⟨[]⟩,⟨0,0,0,0⟩,323,os⟩,⟨(.body (behindTheImports prog) aC),⟨34,0,38,15⟩⟩⟩⟩))):=by intro w; kernel_rfl
theorem DA: ∀ w:World,((fun os:OsState=>(Fast.tw10110043849684766642 Fast.tw14364793385576792824 prog w 11 (.some (.ref 6)) 1 62 ⟨(jr (World.params w)),116,⟨[],[],[],0,[],[],false,⟨[]⟩,[],0,false,false,false,0,[2000,10,10],false,0,true,[],[],0,false⟩,⟨[]⟩,⟨0,0,0,0⟩,323,os⟩ (piecesOf pD aC (.body (behindTheImports prog) aC) ⟨34,0,38,15⟩ [(topFrame ⟨0,0,0,0⟩)])))=(fun os=>(.some ⟨.next,⟨⟨(jo (World.params w)),126,⟨[],[],[],0,[],[],false,⟨[]⟩,[],0,false,false,false,0,[2000,10,10],false,0,true,[],[],0,false⟩,⟨[]⟩,⟨0,0,0,0⟩,337,os⟩,⟨(.body (behindTheImports prog) aC),⟨57,0,57,8⟩⟩⟩⟩))):=by intro w; kernel_rfl
theorem Dz: ∀ w:World,((fun os:OsState=>(Fast.tw10110043849684766642 Fast.tw14364793385576792824 prog w 11 (.some (.ref 6)) 1 509 ⟨(jo (World.params w)),126,⟨[],[],[],0,[],[],false,⟨[]⟩,[],0,false,false,false,0,[2000,10,10],false,0,true,[],[],0,false⟩,⟨[]⟩,⟨0,0,0,0⟩,337,os⟩ (piecesOf pC aC (.body (behindTheImports prog) aC) ⟨57,0,57,8⟩ [(topFrame ⟨0,0,0,0⟩)])))=(fun os=>(.some ⟨.next,⟨⟨(jn (World.params w)),210,⟨[],[],[],0,[],[],false,⟨[]⟩,[],0,false,false,false,0,[2000,10,10],false,0,true,[],[],0,false⟩,⟨[]⟩,⟨0,0,0,0⟩,436,os⟩,⟨(.body (behindTheImports prog) aC),⟨58,0,94,30⟩⟩⟩⟩))):=by intro w; kernel_rfl
theorem Dy: ∀ w:World,((fun os:OsState=>(Fast.tw10110043849684766642 Fast.tw14364793385576792824 prog w 11 (.some (.ref 6)) 1 383 ⟨(jn (World.params w)),210,⟨[],[],[],0,[],[],false,⟨[]⟩,[],0,false,false,false,0,[2000,10,10],false,0,true,[],[],0,false⟩,⟨[]⟩,⟨0,0,0,0⟩,436,os⟩ (piecesOf pB aC (.body (behindTheImports prog) aC) ⟨58,0,94,30⟩ [(topFrame ⟨0,0,0,0⟩)])))=(fun os=>(.some ⟨.next,⟨⟨(jm (World.params w)),286,⟨[],[],[],0,[],[],false,⟨[]⟩,[],0,false,false,false,0,[2000,10,10],false,0,true,[],[],0,false⟩,⟨[]⟩,⟨0,0,0,0⟩,548,os⟩,⟨(.body (behindTheImports prog) aC),⟨218,0,220,105⟩⟩⟩⟩))):=by intro w; kernel_rfl
theorem Dx: ∀ w:World,((fun os:OsState=>(Fast.tw10110043849684766642 Fast.tw14364793385576792824 prog w 11 (.some (.ref 6)) 1 58 ⟨(jm (World.params w)),286,⟨[],[],[],0,[],[],false,⟨[]⟩,[],0,false,false,false,0,[2000,10,10],false,0,true,[],[],0,false⟩,⟨[]⟩,⟨0,0,0,0⟩,548,os⟩ (piecesOf pA aC (.body (behindTheImports prog) aC) ⟨218,0,220,105⟩ [(topFrame ⟨0,0,0,0⟩)])))=(fun os=>(.some ⟨.next,⟨⟨(jk (World.params w)),298,⟨[],[],[],0,[],[],false,⟨[]⟩,[],0,false,false,false,0,[2000,10,10],false,0,true,[],[],0,false⟩,⟨[]⟩,⟨0,0,0,0⟩,563,os⟩,⟨(.body (behindTheImports prog) aC),⟨232,0,253,131⟩⟩⟩⟩))):=by intro w; kernel_rfl
theorem Dw: ∀ w:World,((fun os:OsState=>(Fast.tw14082659384304107361 Fast.tw14364793385576792824 prog w 11 (.some (.ref 6)) 2 (W.SharedT.abs ⟨(jk (World.params w)),298,⟨[],[],[],0,[],[],false,⟨[]⟩,[],0,false,false,false,0,[2000,10,10],false,0,true,[],[],0,false⟩,⟨[]⟩,⟨0,0,0,0⟩,563,os⟩) ⟨(W.doneF .next),(.body (behindTheImports prog) aC),⟨232,0,253,131⟩,[(topFrame ⟨0,0,0,0⟩)]⟩))=(fun os=>(.some ⟨(aj (World.params w)),⟨[]⟩,⟨0,0,0,0⟩,563,os⟩))):=by intro w; kernel_rfl
theorem Dv: ∀ w:World,((⟨(Bool.and (Heap.isNs (W.boot_heap (World.params w)) mainGlobals) (BEq.beq (Array.size (⟨[]⟩:Array GenState)) 0)),⟨(Array.size (Heap.objs (W.boot_heap (World.params w)))),(Fast.tw8920871248978507458 (W.boot_heap (World.params w)) mainGlobals ⟨⟨[95,95,97,110,110,111,116,97,116,105,111,110,115,95,95]⟩⟩)⟩⟩:Bool×Nat×Option Value)=⟨true,⟨11,(.some (.ref 6))⟩⟩):=by intro w; kernel_rfl
theorem Du: ∀ w:World,((fun os:OsState=>(Bool.and (Bool.and (Bool.and (W.staticsOk (Fast.tw5923862056798008813 (Module.body (Program.main prog))) (W.boot_heap (World.params w)) (aj (World.params w))) (W.namesBound prog (aj (World.params w)))) (W.gensDone ⟨(aj (World.params w)),⟨[]⟩,⟨0,0,0,0⟩,563,os⟩)) (W.laidKept (W.boot_heap (World.params w)) (aj (World.params w)))))=(fun os=>true)):=by intro w; kernel_rfl
theorem Dt: ∀ w:World,((fun os:OsState=>(Fast.tw5160383126252970620 (W.R.mapR (fun x2=>(DefRec.name x2)) (Fast.tw3399658132070893891 ar)) (Fast.tw5991557255702980513 ar) [] ⟨(Shared.heap ⟨(aj (World.params w)),⟨[]⟩,⟨0,0,0,0⟩,563,os⟩),⟨[]⟩,(Shared.drawn ⟨(aj (World.params w)),⟨[]⟩,⟨0,0,0,0⟩,563,os⟩),(Shared.toks ⟨(aj (World.params w)),⟨[]⟩,⟨0,0,0,0⟩,563,os⟩),(Shared.os ⟨(aj (World.params w)),⟨[]⟩,⟨0,0,0,0⟩,563,os⟩)⟩))=(fun os=>(PyProof.Rows.expectedOf ar))):=by intro w; kernel_rfl
theorem Ds: ∀ w:World,((fun os:OsState=>(Heap.bltView (Shared.heap ⟨(aj (World.params w)),⟨[]⟩,⟨0,0,0,0⟩,563,os⟩)))=(fun os=>bltViewBooted)):=by intro w; kernel_rfl
theorem Dr: ∀ w:World,((fun os:OsState=>(Bool.and (Bool.and (Bool.and (Bool.and (Bool.and (Bool.and (Fast.tw10880121769531294198 (Shared.heap ⟨(aj (World.params w)),⟨[]⟩,⟨0,0,0,0⟩,563,os⟩) (Fast.tw821141287760084731 ar []) (W.R.mapR (fun x2=>(DefRec.name x2)) (Fast.tw3399658132070893891 ar)) (W.R.mapR (fun x2=>(Prod.fst x2)) (Fast.tw7409074990110511671 ar)) (W.R.mapR (fun x2=>(ClsRec.name x2)) (Fast.tw13664370479719496447 ar (Fast.tw821141287760084731 ar [])))) (Fast.tw14722251495701143533 (Shared.heap ⟨(aj (World.params w)),⟨[]⟩,⟨0,0,0,0⟩,563,os⟩) (Fast.tw5923862056798008813 (Module.body (Program.main prog))))) (Heap.isNs (Shared.heap ⟨(aj (World.params w)),⟨[]⟩,⟨0,0,0,0⟩,563,os⟩) mainGlobals)) (Heap.isNs (Shared.heap ⟨(aj (World.params w)),⟨[]⟩,⟨0,0,0,0⟩,563,os⟩) builtinsNs)) (Fast.tw10994771534591457954 ar (Shared.heap ⟨(aj (World.params w)),⟨[]⟩,⟨0,0,0,0⟩,563,os⟩))) (Bool.and (W.xlAt ar [] ⟨(aj (World.params w)),⟨[]⟩,⟨0,0,0,0⟩,563,os⟩) (W.recOk (W.RowW.records (W.OpenRow.toRowW (Fast.tw2368527892694137696 lawT))) ⟨(aj (World.params w)),⟨[]⟩,⟨0,0,0,0⟩,563,os⟩))) (ite (true=true) (BEq.beq (Array.size (Shared.gens ⟨(aj (World.params w)),⟨[]⟩,⟨0,0,0,0⟩,563,os⟩)) 0) (Bool.not (leftWithCleanup (Shared.gens ⟨(aj (World.params w)),⟨[]⟩,⟨0,0,0,0⟩,563,os⟩))))))=(fun os=>true)):=by intro w; kernel_rfl
theorem Dq: ∀ w:World,((fun os:OsState=>(Fast.tw479339242167458305 ar ⟨(aj (World.params w)),⟨[]⟩,⟨0,0,0,0⟩,563,os⟩))=(fun os=>true)):=by intro w; kernel_rfl
theorem Dp: ∀ w:World,((fun os:OsState=>(Fast.tw16090120013241838585 ar (Fast.tw3247288618530077131 ar) ⟨(aj (World.params w)),⟨[]⟩,⟨0,0,0,0⟩,563,os⟩))=(fun os=>(pinGoodD (Fast.tw3247288618530077131 ar)))):=by intro w; kernel_rfl
theorem Dn: ∀ w:World,((fun os:OsState=>(Fast.tw2386780881361962483 ar (Fast.tw821141287760084731 ar []) ⟨(aj (World.params w)),⟨[]⟩,⟨0,0,0,0⟩,563,os⟩))=(fun os=>(PyProof.Rows.plainGoodE ar (Fast.tw821141287760084731 ar [])))):=by intro w; kernel_rfl
theorem Dm: ∀ w:World,((fun os:OsState=>(Fast.tw11698064438423848299 ar [] ⟨(aj (World.params w)),⟨[]⟩,⟨0,0,0,0⟩,563,os⟩))=(fun os=>(PyProof.Rows.plainGoodD ar []))):=by intro w; kernel_rfl
theorem Dl: ∀ w:World,((fun os:OsState=>(Fast.tw7317090234206586261 ar ⟨(aj (World.params w)),⟨[]⟩,⟨0,0,0,0⟩,563,os⟩))=(fun os=>(W.wideGood ar))):=by intro w; kernel_rfl
theorem Dk: ∀ w:World,((fun os:OsState=>(Fast.tw7369524293546568484 ar [] ⟨(aj (World.params w)),⟨[]⟩,⟨0,0,0,0⟩,563,os⟩))=(fun os=>(W.clsGoodW ar []))):=by intro w; kernel_rfl
theorem Dj: ∀ w:World,((fun os:OsState=>(W.Hook.obs hk ⟨(aj (World.params w)),⟨[]⟩,⟨0,0,0,0⟩,563,os⟩))=(fun os=>(W.Hook.val hk w))):=by intro w; kernel_rfl
theorem u47: ∀ w:World,((fun os:OsState=>(W.topGo treeTable prog w 11 (.some (.ref 6)) 12 ⟨(W.boot_heap (World.params w)),⟨[]⟩,W.boot_drawn,W.boot_toks,os⟩ (W.topStub prog)))=(fun os=>(.some ⟨⟨(nu (World.params w)),⟨[]⟩,⟨0,0,0,0⟩,187,os⟩,⟨(denote treeTable (.body (behindTheImports prog) aC)),(.body (behindTheImports prog) aC),⟨0,0,0,0⟩,[(topFrame ⟨0,0,0,0⟩)]⟩⟩))):=by
 intro w
 rw [Fast.te15667345088766844465,Fast.te14364793385576792824,Fast.te11892475500146522536]
 exact i46 w
theorem u49: ∀ w:World,((fun os:OsState=>(W.segRun treeTable prog w 11 (.some (.ref 6)) 1 1 ⟨(nu (World.params w)),⟨[]⟩,⟨0,0,0,0⟩,187,os⟩ (W.blockOf (behindTheImports prog) aC (.body (behindTheImports prog) aC) ⟨0,0,0,0⟩ [(topFrame ⟨0,0,0,0⟩)])))=(fun os=>(.some ⟨.next,⟨(W.SharedT.abs ⟨(mD (World.params w)),15,⟨[],[],[],0,[],[],false,⟨[]⟩,[],0,false,false,false,0,[2000,10,10],false,0,true,[],[],0,false⟩,⟨[]⟩,⟨0,0,0,0⟩,187,os⟩),⟨(.body (behindTheImports prog) aC),⟨0,0,0,0⟩⟩⟩⟩))):=by
 intro w
 rw [Fast.te14374325043358763698,Fast.te14364793385576792824]
 exact i48 w
theorem u71: ∀ w:World,((fun os:OsState=>(W.segRunT treeTable prog w 11 (.some (.ref 6)) 1 225 ⟨(mD (World.params w)),15,⟨[],[],[],0,[],[],false,⟨[]⟩,[],0,false,false,false,0,[2000,10,10],false,0,true,[],[],0,false⟩,⟨[]⟩,⟨0,0,0,0⟩,187,os⟩ (piecesOf uk aC (.body (behindTheImports prog) aC) ⟨0,0,0,0⟩ [(topFrame ⟨0,0,0,0⟩)])))=(fun os=>(.some ⟨.next,⟨⟨(mC (World.params w)),35,⟨[],[],[],0,[],[],false,⟨[]⟩,[],0,false,false,false,0,[2000,10,10],false,0,true,[],[],0,false⟩,⟨[]⟩,⟨0,0,0,0⟩,214,os⟩,⟨(.body (behindTheImports prog) aC),⟨5,0,6,8⟩⟩⟩⟩))):=by
 intro w
 rw [Fast.te10110043849684766642,Fast.te14364793385576792824]
 exact i70 w
theorem u86: ∀ w:World,((fun os:OsState=>(W.segRunT treeTable prog w 11 (.some (.ref 6)) 1 214 ⟨(mC (World.params w)),35,⟨[],[],[],0,[],[],false,⟨[]⟩,[],0,false,false,false,0,[2000,10,10],false,0,true,[],[],0,false⟩,⟨[]⟩,⟨0,0,0,0⟩,214,os⟩ (piecesOf uj aC (.body (behindTheImports prog) aC) ⟨5,0,6,8⟩ [(topFrame ⟨0,0,0,0⟩)])))=(fun os=>(.some ⟨.next,⟨⟨(mB (World.params w)),47,⟨[],[],[],0,[],[],false,⟨[]⟩,[],0,false,false,false,0,[2000,10,10],false,0,true,[],[],0,false⟩,⟨[]⟩,⟨0,0,0,0⟩,230,os⟩,⟨(.body (behindTheImports prog) aC),⟨7,0,8,8⟩⟩⟩⟩))):=by
 intro w
 rw [Fast.te10110043849684766642,Fast.te14364793385576792824]
 exact i85 w
theorem CO: ∀ w:World,((fun os:OsState=>(W.segRunT treeTable prog w 11 (.some (.ref 6)) 1 214 ⟨(mB (World.params w)),47,⟨[],[],[],0,[],[],false,⟨[]⟩,[],0,false,false,false,0,[2000,10,10],false,0,true,[],[],0,false⟩,⟨[]⟩,⟨0,0,0,0⟩,230,os⟩ (piecesOf ui aC (.body (behindTheImports prog) aC) ⟨7,0,8,8⟩ [(topFrame ⟨0,0,0,0⟩)])))=(fun os=>(.some ⟨.next,⟨⟨(jt (World.params w)),59,⟨[],[],[],0,[],[],false,⟨[]⟩,[],0,false,false,false,0,[2000,10,10],false,0,true,[],[],0,false⟩,⟨[]⟩,⟨0,0,0,0⟩,246,os⟩,⟨(.body (behindTheImports prog) aC),⟨9,0,10,8⟩⟩⟩⟩))):=by
 intro w
 rw [Fast.te10110043849684766642,Fast.te14364793385576792824]
 exact DD w
theorem CN: ∀ w:World,((fun os:OsState=>(W.segRunT treeTable prog w 11 (.some (.ref 6)) 1 214 ⟨(jt (World.params w)),59,⟨[],[],[],0,[],[],false,⟨[]⟩,[],0,false,false,false,0,[2000,10,10],false,0,true,[],[],0,false⟩,⟨[]⟩,⟨0,0,0,0⟩,246,os⟩ (piecesOf pF aC (.body (behindTheImports prog) aC) ⟨9,0,10,8⟩ [(topFrame ⟨0,0,0,0⟩)])))=(fun os=>(.some ⟨.next,⟨⟨(js (World.params w)),71,⟨[],[],[],0,[],[],false,⟨[]⟩,[],0,false,false,false,0,[2000,10,10],false,0,true,[],[],0,false⟩,⟨[]⟩,⟨0,0,0,0⟩,262,os⟩,⟨(.body (behindTheImports prog) aC),⟨11,0,12,8⟩⟩⟩⟩))):=by
 intro w
 rw [Fast.te10110043849684766642,Fast.te14364793385576792824]
 exact DC w
theorem CM: ∀ w:World,((fun os:OsState=>(W.segRunT treeTable prog w 11 (.some (.ref 6)) 1 388 ⟨(js (World.params w)),71,⟨[],[],[],0,[],[],false,⟨[]⟩,[],0,false,false,false,0,[2000,10,10],false,0,true,[],[],0,false⟩,⟨[]⟩,⟨0,0,0,0⟩,262,os⟩ (piecesOf pE aC (.body (behindTheImports prog) aC) ⟨11,0,12,8⟩ [(topFrame ⟨0,0,0,0⟩)])))=(fun os=>(.some ⟨.next,⟨⟨(jr (World.params w)),116,⟨[],[],[],0,[],[],false,⟨[]⟩,[],0,false,false,false,0,[2000,10,10],false,0,true,[],[],0,false⟩,⟨[]⟩,⟨0,0,0,0⟩,323,os⟩,⟨(.body (behindTheImports prog) aC),⟨34,0,38,15⟩⟩⟩⟩))):=by
 intro w
 rw [Fast.te10110043849684766642,Fast.te14364793385576792824]
 exact DB w
theorem CL: ∀ w:World,((fun os:OsState=>(W.segRunT treeTable prog w 11 (.some (.ref 6)) 1 62 ⟨(jr (World.params w)),116,⟨[],[],[],0,[],[],false,⟨[]⟩,[],0,false,false,false,0,[2000,10,10],false,0,true,[],[],0,false⟩,⟨[]⟩,⟨0,0,0,0⟩,323,os⟩ (piecesOf pD aC (.body (behindTheImports prog) aC) ⟨34,0,38,15⟩ [(topFrame ⟨0,0,0,0⟩)])))=(fun os=>(.some ⟨.next,⟨⟨(jo (World.params w)),126,⟨[],[],[],0,[],[],false,⟨[]⟩,[],0,false,false,false,0,[2000,10,10],false,0,true,[],[],0,false⟩,⟨[]⟩,⟨0,0,0,0⟩,337,os⟩,⟨(.body (behindTheImports prog) aC),⟨57,0,57,8⟩⟩⟩⟩))):=by
 intro w
 rw [Fast.te10110043849684766642,Fast.te14364793385576792824]
 exact DA w
theorem CK: ∀ w:World,((fun os:OsState=>(W.segRunT treeTable prog w 11 (.some (.ref 6)) 1 509 ⟨(jo (World.params w)),126,⟨[],[],[],0,[],[],false,⟨[]⟩,[],0,false,false,false,0,[2000,10,10],false,0,true,[],[],0,false⟩,⟨[]⟩,⟨0,0,0,0⟩,337,os⟩ (piecesOf pC aC (.body (behindTheImports prog) aC) ⟨57,0,57,8⟩ [(topFrame ⟨0,0,0,0⟩)])))=(fun os=>(.some ⟨.next,⟨⟨(jn (World.params w)),210,⟨[],[],[],0,[],[],false,⟨[]⟩,[],0,false,false,false,0,[2000,10,10],false,0,true,[],[],0,false⟩,⟨[]⟩,⟨0,0,0,0⟩,436,os⟩,⟨(.body (behindTheImports prog) aC),⟨58,0,94,30⟩⟩⟩⟩))):=by
 intro w
 rw [Fast.te10110043849684766642,Fast.te14364793385576792824]
 exact Dz w
theorem CJ: ∀ w:World,((fun os:OsState=>(W.segRunT treeTable prog w 11 (.some (.ref 6)) 1 383 ⟨(jn (World.params w)),210,⟨[],[],[],0,[],[],false,⟨[]⟩,[],0,false,false,false,0,[2000,10,10],false,0,true,[],[],0,false⟩,⟨[]⟩,⟨0,0,0,0⟩,436,os⟩ (piecesOf pB aC (.body (behindTheImports prog) aC) ⟨58,0,94,30⟩ [(topFrame ⟨0,0,0,0⟩)])))=(fun os=>(.some ⟨.next,⟨⟨(jm (World.params w)),286,⟨[],[],[],0,[],[],false,⟨[]⟩,[],0,false,false,false,0,[2000,10,10],false,0,true,[],[],0,false⟩,⟨[]⟩,⟨0,0,0,0⟩,548,os⟩,⟨(.body (behindTheImports prog) aC),⟨218,0,220,105⟩⟩⟩⟩))):=by
 intro w
 rw [Fast.te10110043849684766642,Fast.te14364793385576792824]
 exact Dy w
theorem CI: ∀ w:World,((fun os:OsState=>(W.segRunT treeTable prog w 11 (.some (.ref 6)) 1 58 ⟨(jm (World.params w)),286,⟨[],[],[],0,[],[],false,⟨[]⟩,[],0,false,false,false,0,[2000,10,10],false,0,true,[],[],0,false⟩,⟨[]⟩,⟨0,0,0,0⟩,548,os⟩ (piecesOf pA aC (.body (behindTheImports prog) aC) ⟨218,0,220,105⟩ [(topFrame ⟨0,0,0,0⟩)])))=(fun os=>(.some ⟨.next,⟨⟨(jk (World.params w)),298,⟨[],[],[],0,[],[],false,⟨[]⟩,[],0,false,false,false,0,[2000,10,10],false,0,true,[],[],0,false⟩,⟨[]⟩,⟨0,0,0,0⟩,563,os⟩,⟨(.body (behindTheImports prog) aC),⟨232,0,253,131⟩⟩⟩⟩))):=by
 intro w
 rw [Fast.te10110043849684766642,Fast.te14364793385576792824]
 exact Dx w
theorem CH: ∀ w:World,((fun os:OsState=>(W.topRun treeTable prog w 11 (.some (.ref 6)) 2 (W.SharedT.abs ⟨(jk (World.params w)),298,⟨[],[],[],0,[],[],false,⟨[]⟩,[],0,false,false,false,0,[2000,10,10],false,0,true,[],[],0,false⟩,⟨[]⟩,⟨0,0,0,0⟩,563,os⟩) ⟨(W.doneF .next),(.body (behindTheImports prog) aC),⟨232,0,253,131⟩,[(topFrame ⟨0,0,0,0⟩)]⟩))=(fun os=>(.some ⟨(aj (World.params w)),⟨[]⟩,⟨0,0,0,0⟩,563,os⟩))):=by
 intro w
 rw [Fast.te14082659384304107361,Fast.te14364793385576792824]
 exact Dw w
theorem CG: ∀ w:World,((⟨(Bool.and (Heap.isNs (W.boot_heap (World.params w)) mainGlobals) (BEq.beq (Array.size (⟨[]⟩:Array GenState)) 0)),⟨(Array.size (Heap.objs (W.boot_heap (World.params w)))),(Heap.nsMap (W.boot_heap (World.params w)) mainGlobals q0)⟩⟩:Bool×Nat×Option Value)=⟨true,⟨11,(.some (.ref 6))⟩⟩):=by
 intro w
 rw [Fast.te8920871248978507458]
 exact Dv w
theorem CF: ∀ w:World,((fun os:OsState=>(Bool.and (Bool.and (Bool.and (W.staticsOk (importedModules (Module.body (Program.main prog))) (W.boot_heap (World.params w)) (aj (World.params w))) (W.namesBound prog (aj (World.params w)))) (W.gensDone ⟨(aj (World.params w)),⟨[]⟩,⟨0,0,0,0⟩,563,os⟩)) (W.laidKept (W.boot_heap (World.params w)) (aj (World.params w)))))=(fun os=>true)):=by
 intro w
 rw [Fast.te5923862056798008813]
 exact Du w
theorem CE: ∀ w:World,((fun os:OsState=>(PyProof.Rows.seen (List.map (fun x2=>(DefRec.name x2)) (PyProof.Rows.recsOf ar)) (PyProof.Rows.ownsOf ar) [] ⟨(Shared.heap ⟨(aj (World.params w)),⟨[]⟩,⟨0,0,0,0⟩,563,os⟩),⟨[]⟩,(Shared.drawn ⟨(aj (World.params w)),⟨[]⟩,⟨0,0,0,0⟩,563,os⟩),(Shared.toks ⟨(aj (World.params w)),⟨[]⟩,⟨0,0,0,0⟩,563,os⟩),(Shared.os ⟨(aj (World.params w)),⟨[]⟩,⟨0,0,0,0⟩,563,os⟩)⟩))=(fun os=>(PyProof.Rows.expectedOf ar))):=by
 intro w
 rw [Fast.te5160383126252970620,W.R.mapR_eq,Fast.te3399658132070893891,Fast.te5991557255702980513]
 exact Dt w
theorem CD: ∀ w:World,((fun os:OsState=>(Heap.bltView (Shared.heap ⟨(aj (World.params w)),⟨[]⟩,⟨0,0,0,0⟩,563,os⟩)))=(fun os=>bltViewBooted)):=by
 intro w
 rw []
 exact Ds w
theorem CC: ∀ w:World,((fun os:OsState=>(Bool.and (Bool.and (Bool.and (Bool.and (Bool.and (Bool.and (Heap.keysOk (Shared.heap ⟨(aj (World.params w)),⟨[]⟩,⟨0,0,0,0⟩,563,os⟩) (W.looseW ar []) (List.map (fun x2=>(DefRec.name x2)) (PyProof.Rows.recsOf ar)) (List.map (fun x2=>(Prod.fst x2)) (PyProof.Rows.litsOf ar)) (List.map (fun x2=>(ClsRec.name x2)) (PyProof.Rows.clssOf ar (W.looseW ar [])))) (Heap.accountedOkI (Shared.heap ⟨(aj (World.params w)),⟨[]⟩,⟨0,0,0,0⟩,563,os⟩) (importedModules (Module.body (Program.main prog))))) (Heap.isNs (Shared.heap ⟨(aj (World.params w)),⟨[]⟩,⟨0,0,0,0⟩,563,os⟩) mainGlobals)) (Heap.isNs (Shared.heap ⟨(aj (World.params w)),⟨[]⟩,⟨0,0,0,0⟩,563,os⟩) builtinsNs)) (PyProof.Rows.tablesOk ar (Shared.heap ⟨(aj (World.params w)),⟨[]⟩,⟨0,0,0,0⟩,563,os⟩))) (Bool.and (W.xlAt ar [] ⟨(aj (World.params w)),⟨[]⟩,⟨0,0,0,0⟩,563,os⟩) (W.recOk (W.RowW.records lawT.row.toRowW) ⟨(aj (World.params w)),⟨[]⟩,⟨0,0,0,0⟩,563,os⟩))) (ite (true=true) (BEq.beq (Array.size (Shared.gens ⟨(aj (World.params w)),⟨[]⟩,⟨0,0,0,0⟩,563,os⟩)) 0) (Bool.not (leftWithCleanup (Shared.gens ⟨(aj (World.params w)),⟨[]⟩,⟨0,0,0,0⟩,563,os⟩))))))=(fun os=>true)):=by
 intro w
 rw [Fast.te10880121769531294198,Fast.te821141287760084731,W.R.mapR_eq,Fast.te3399658132070893891,Fast.te7409074990110511671,Fast.te13664370479719496447,Fast.te14722251495701143533,Fast.te5923862056798008813,Fast.te10994771534591457954]
 exact Dr w
theorem CB: ∀ w:World,((fun os:OsState=>(PyProof.Rows.tabsOk ar ⟨(aj (World.params w)),⟨[]⟩,⟨0,0,0,0⟩,563,os⟩))=(fun os=>true)):=by
 intro w
 rw [Fast.te479339242167458305]
 exact Dq w
theorem CA: ∀ w:World,((fun os:OsState=>(pinSeenD ar (PyProof.Rows.drecsOf ar) ⟨(aj (World.params w)),⟨[]⟩,⟨0,0,0,0⟩,563,os⟩))=(fun os=>(pinGoodD (PyProof.Rows.drecsOf ar)))):=by
 intro w
 rw [Fast.te16090120013241838585,Fast.te3247288618530077131]
 exact Dp w
theorem Cz: ∀ w:World,((fun os:OsState=>(PyProof.Rows.plainSeenE ar (W.looseW ar []) ⟨(aj (World.params w)),⟨[]⟩,⟨0,0,0,0⟩,563,os⟩))=(fun os=>(PyProof.Rows.plainGoodE ar (W.looseW ar [])))):=by
 intro w
 rw [Fast.te2386780881361962483,Fast.te821141287760084731]
 exact Dn w
theorem Cy: ∀ w:World,((fun os:OsState=>(PyProof.Rows.plainSeenD ar [] ⟨(aj (World.params w)),⟨[]⟩,⟨0,0,0,0⟩,563,os⟩))=(fun os=>(PyProof.Rows.plainGoodD ar []))):=by
 intro w
 rw [Fast.te11698064438423848299]
 exact Dm w
theorem Cw: ∀ w:World,((fun os:OsState=>(W.wideSeen ar ⟨(aj (World.params w)),⟨[]⟩,⟨0,0,0,0⟩,563,os⟩))=(fun os=>(W.wideGood ar))):=by
 intro w
 rw [Fast.te7317090234206586261]
 exact Dl w
theorem Cv: ∀ w:World,((fun os:OsState=>(W.clsSeenW ar [] ⟨(aj (World.params w)),⟨[]⟩,⟨0,0,0,0⟩,563,os⟩))=(fun os=>(W.clsGoodW ar []))):=by
 intro w
 rw [Fast.te7369524293546568484]
 exact Dk w
theorem hb:behindTheImports prog=uk++(uj++(ui++(pF++(pE++(pD++(pC++(pB++(pA++[])))))))):=by kernel_rfl
theorem run: ∀ (w:World) (os:OsState),((W.topRun treeTable prog w 11 (.some (.ref 6)) (Nat.add 12 (Nat.add 1 (Nat.add 225 (Nat.add 214 (Nat.add 214 (Nat.add 214 (Nat.add 388 (Nat.add 62 (Nat.add 509 (Nat.add 383 (Nat.add 58 2))))))))))) ⟨(W.boot_heap (World.params w)),⟨[]⟩,W.boot_drawn,W.boot_toks,os⟩ (W.topStub prog))=(.some ⟨(aj (World.params w)),⟨[]⟩,⟨0,0,0,0⟩,563,os⟩)):=by
 intro w os
 refine go_top (congrFun (u47 w) os) (piece_block (congrFun (u49 w) os) ?_)
 rw [congrArg restOf hb]
 exact (piece_app (segRun_of (congrFun (u71 w) os)) (piece_app (segRun_of (congrFun (u86 w) os)) (piece_app (segRun_of (congrFun (CO w) os)) (piece_app (segRun_of (congrFun (CN w) os)) (piece_app (segRun_of (congrFun (CM w) os)) (piece_app (segRun_of (congrFun (CL w) os)) (piece_app (segRun_of (congrFun (CK w) os)) (piece_app (segRun_of (congrFun (CJ w) os)) (piece_app (segRun_of (congrFun (CI w) os)) (piece_nil (congrFun (CH w) os)))))))))))
theorem p42:opening prog=plainProg prog.main.scope.names:=by kernel_rfl
theorem p43 (s:Shared):fenceModules? prog s=some s:=by kernel_rfl
theorem vO (w:World) (os:OsState):openSeen ar [] (importedModules prog.main.body) (fun s=>xlAt ar [] s && recOk lawT.row.toRowW.records s) true ⟨(aj (w.params)),⟨[]⟩,⟨0,0,0,0⟩,563,os⟩=openGood ar []:=
 (looks_pair (congrFun (CE w) os) (looks_pair (congrFun (CD w) os) (looks_pair (congrFun (CC w) os) (looks_pair (congrFun (CB w) os) (looks_pair (congrFun (CA w) os) (looks_pair (congrFun (Cz w) os) (looks_pair (congrFun (Cy w) os) (looks_pair (congrFun (Cw w) os) (congrFun (Cv w) os)))))))))
theorem left:LeftO prog ar [] (fun s=>xlAt ar [] s && recOk lawT.row.toRowW.records s) hk.obs hk.val 400000:=
 LeftO.of_pieces (boot_open p42 rfl p43) CG run rfl fun w=>funext fun os=>looks_pair (congrFun (CF w) os) (looks_pair (vO w os) (congrFun (Dj w) os))
noncomputable def Ci:DefRec:=⟨Str.ofString "law",fA (st 34),fB (st 34),fS (st 34),⟨232,0,253,131⟩⟩
theorem Bn:LeftO lawT.row.prog ar [] (fun s=>xlAt ar [] s && recOk lawT.row.toRowW.records s) hk.obs hk.val 400000:=left
theorem DE (walk:WalkO ar [] (XL ar []) hk.says lawT.row.toRowW Ci [] (fun f vs=>call f vs)):PySem.Challenge.rw_uf050020_12.Holds:=by
 rw [yP]
 w_on; o_law
 rename_i said
 refine holds_open (N:=400000) Bn hk.of hk.keeps (fun s e=>xl_of s (Bool.and_eq_true_iff.mp e).left) XL.keeps (d:=Ci) (kwd:=[]) ?a ?b ?c (fun s e=>recFacts_of (Bool.and_eq_true_iff.mp e).right) ?d said ?e ?f ?g walk
 case a=>kernel_rfl
 case b=>kernel_rfl
 case c=>kernel_rfl
 case d=>kernel_rfl
 case e=>first | k_qdec | kernel_rfl
 case f=>exact ⟨rfl,rfl,rfl,rfl,rfl,by first | k_qdec | kernel_rfl⟩
 case g=>exact ⟨[.list []],by decide +kernel,by decide +kernel⟩
end Mine
open PySem PySem.W PyProof.Rows
set_option maxHeartbeats 8000000
namespace Mine
noncomputable def nms:List String:=["BadBound", "BadName", "NoStore", "NoThing", "RoomError", "SIGNS", "Store", "ValueError", "__name__", "_law_alone", "_law_at", "_law_bits", "_law_bound", "_law_cell", "_law_cell_at", "_law_changed", "_law_due", "_law_e", "_law_figures", "_law_first", "_law_found", "_law_frame", "_law_high", "_law_inside", "_law_k", "_law_kept", "_law_kinds", "_law_left", "_law_low", "_law_many", "_law_more", "_law_name", "_law_number", "_law_odd", "_law_one", "_law_other", "_law_pair", "_law_plain", "_law_read", "_law_refused", "_law_row", "_law_rows", "_law_script", "_law_second", "_law_sign", "_law_signs", "_law_some", "_law_text", "_law_text_here", "_law_told", "_law_waiting", "_law_which", "_law_whole", "_law_word", "_law_worth", "_wall", "ahead", "append", "at", "before", "bits", "bool", "both", "bound", "figures", "first", "found", "held", "int", "isinstance", "join", "k", "last", "len", "list", "mixed", "most", "name", "need_name", "number", "number_of", "parted", "parts", "place", "pop", "put", "range", "read", "room", "rooms", "rooms_for", "row", "rows", "self", "sign", "signs", "sorted", "split", "store", "str", "text", "thing", "things", "value", "value_in", "waiting", "with_thing", "word", "words", "written"]
noncomputable def msL:List (String×String):=[("put", "Store.put"),("rooms", "Store.rooms"),("things", "Store.things")]
theorem walk12:PySem.Challenge.rw_uf050020_12.Holds:=by
 apply DE
 intro w s₀ s₁ mg mb G Y fa o pm cd doc dV kV ho hd hcd hD hmg hg args vals as hpre hlay hrd hwl hlo
 have KX:=kIn_of Y
 refine Ground.open G ?_
 intro T B D TE TW
 let C:Cx:=Dg lawT.row.prog w s₁ mg mb _ KX T.g T.b T.nolimit T.builtins ["need_name", "mixed", "signs", "with_thing", "value_in", "parted", "rooms_for", "written", "number_of", "read", "_law_whole", "_law_cell_at", "_law_signs", "_law_text", "_law_number", "_law_read", "_law_odd", "_law_changed", "_law_alone", "_law_refused"] [("SIGNS",8)] (by kernel_rfl) 205 msL ["bound", "held"] (faK (nv w.params) 205 (("__init__", "Store.__init__")::msL)) (by kernel_rfl) (by kernel_rfl) (by kernel_rfl) ["BadName", "BadBound", "NoThing", "NoStore", "RoomError"] (wb KX (topRead_of T) (by kernel_rfl))
 have F_need_name:bO C "need_name" ["name"] hU:=aD C KX (l:=nms) (n:=40) (by kernel_rfl) (lj fun _=>by kernel_rfl) (by kernel_rfl)
 have F_mixed:bO C "mixed" ["name"] rx:=aD C KX (l:=nms) (n:=40) (by kernel_rfl) (lj fun _=>by kernel_rfl) (by kernel_rfl)
 have F_signs:bO C "signs" ["name"] rt:=aD C KX (l:=nms) (n:=40) (by kernel_rfl) (lj fun _=>by kernel_rfl) (by kernel_rfl)
 have F_with_thing:bO C "with_thing" ["things", "name", "value"] dN:=aD C KX (l:=nms) (n:=40) (by kernel_rfl) (Bm fun _ _ _=>by kernel_rfl) (by kernel_rfl)
 have F_value_in:bO C "value_in" ["things", "name"] jb:=aD C KX (l:=nms) (n:=40) (by kernel_rfl) (tu fun _ _=>by kernel_rfl) (by kernel_rfl)
 have F_parted:bO C "parted" ["room"] nH:=aD C KX (l:=nms) (n:=40) (by kernel_rfl) (lj fun _=>by kernel_rfl) (by kernel_rfl)
 have F_rooms_for:bO C "rooms_for" ["things", "bound"] hM:=aD C KX (l:=nms) (n:=40) (by kernel_rfl) (tu fun _ _=>by kernel_rfl) (by kernel_rfl)
 have F_Store_init:bO C "Store.__init__" ["self", "bound"] fO:=aD C KX (l:=nms) (n:=40) (by kernel_rfl) (tu fun _ _=>by kernel_rfl) (by kernel_rfl)
 have F_Store_put:bO C "Store.put" ["self", "name", "value"] ig:=aD C KX (l:=nms) (n:=40) (by kernel_rfl) (Bm fun _ _ _=>by kernel_rfl) (by kernel_rfl)
 have F_Store_rooms:bO C "Store.rooms" ["self"] eZ:=aD C KX (l:=nms) (n:=40) (by kernel_rfl) (lj fun _=>by kernel_rfl) (by kernel_rfl)
 have F_Store_things:bO C "Store.things" ["self"] er:=aD C KX (l:=nms) (n:=40) (by kernel_rfl) (lj fun _=>by kernel_rfl) (by kernel_rfl)
 have F_written:bO C "written" ["store"] kX:=aD C KX (l:=nms) (n:=40) (by kernel_rfl) (lj fun _=>by kernel_rfl) (by kernel_rfl)
 have F_number_of:bO C "number_of" ["word", "most"] dr:=aD C KX (l:=nms) (n:=40) (by kernel_rfl) (tu fun _ _=>by kernel_rfl) (by kernel_rfl)
 have F_read:bO C "read" ["text"] ru:=aD C KX (l:=nms) (n:=40) (by kernel_rfl) (lj fun _=>by kernel_rfl) (by kernel_rfl)
 have F__law_whole:bO C "_law_whole" ["_law_found"] hV:=aD C KX (l:=nms) (n:=40) (by kernel_rfl) (lj fun _=>by kernel_rfl) (by kernel_rfl)
 have F__law_cell_at:bO C "_law_cell_at" ["_law_script", "_law_k"] eY:=aD C KX (l:=nms) (n:=40) (by kernel_rfl) (tu fun _ _=>by kernel_rfl) (by kernel_rfl)
 have F__law_signs:bO C "_law_signs" ["_law_name"] hW:=aD C KX (l:=nms) (n:=40) (by kernel_rfl) (lj fun _=>by kernel_rfl) (by kernel_rfl)
 have F__law_text:bO C "_law_text" ["_law_plain", "_law_bound"] jd:=aD C KX (l:=nms) (n:=40) (by kernel_rfl) (tu fun _ _=>by kernel_rfl) (by kernel_rfl)
 have F__law_number:bO C "_law_number" ["_law_word"] fN:=aD C KX (l:=nms) (n:=40) (by kernel_rfl) (lj fun _=>by kernel_rfl) (by kernel_rfl)
 have F__law_read:bO C "_law_read" ["_law_text_here"] je:=aD C KX (l:=nms) (n:=40) (by kernel_rfl) (lj fun _=>by kernel_rfl) (by kernel_rfl)
 have F__law_odd:bO C "_law_odd" ["_law_cell"] kY:=aD C KX (l:=nms) (n:=40) (by kernel_rfl) (lj fun _=>by kernel_rfl) (by kernel_rfl)
 have F__law_changed:bO C "_law_changed" ["_law_text_here", "_law_cell", "_law_other"] ds:=aD C KX (l:=nms) (n:=40) (by kernel_rfl) (Bm fun _ _ _=>by kernel_rfl) (by kernel_rfl)
 have F__law_alone:bO C "_law_alone" ["_law_e", "_law_which"] hZ:=aD C KX (l:=nms) (n:=40) (by kernel_rfl) (tu fun _ _=>by kernel_rfl) (by kernel_rfl)
 have F__law_refused:bO C "_law_refused" ["_law_text_here"] eX:=aD C KX (l:=nms) (n:=40) (by kernel_rfl) (lj fun _=>by kernel_rfl) (by kernel_rfl)
 have F_law:bO C "law" ["_law_script"] nM:=aD C KX (l:=nms) (n:=40) (by kernel_rfl) (lj fun _=>by kernel_rfl) (by kernel_rfl)
 have need: ∀ {H:List HO} {n:Int},0≤n→n≤255→Calls C 1 "need_name" [.int n] H (.ok .none) H:=fun h0 h1=>ze (k:=0) F_need_name h0 h1
 have sgns: ∀ {H:List HO} (n:Int),0≤n→n≤255→Calls C 3 "signs" [.int n] H (.ok (.str (sgn n))) H:=fun n h0 h1=>Bv (k:=2) F_signs rfl (wu (k:=1) F_mixed (need h0 h1))
 have put: ∀ {H:List HO} {i j:Nat} {b:Int} {ts:Ts} (n v:Int),ll H i j b ts→ts.length≤1000000→0≤n→n≤255→Calls C 2 "Store.put" [.loc i,.int n,.int v] H (.ok (nW ts n)) (H.set j (stA b (bW ts n v))):=fun n v S hl h0 h1=>Bw (k:=1) F_Store_put S (need h0 h1) (wo (k:=0) F_value_in _ n) (za (k:=0) F_with_thing _ n v hl)
 have rfor: ∀ {H:List HO} {b:Nat} {ts:Ts},az H→Stk b ts→Calls C 5 "rooms_for" [.lst (ts.map pr),.int b] H (.ok (.lst ((aw b ts).map bd))) H:=fun hz g=>me (k:=4) F_rooms_for hz g.b1 g.ok fun H x h1 h2=>rh (k:=3) F_parted x h1 h2 fun n h0 h1=>sgns n h0 h1
 have rms: ∀ {H:List HO} {i j b:Nat} {ts:Ts},az H→Stk b ts→ll H i j b ts→Calls C 6 "Store.rooms" [.loc i] H (.ok (.lst ((aw b ts).map bd))) H:=fun hz g S=>wq (k:=5) F_Store_rooms S (ft _ _) (rfor hz g)
 have wr: ∀ {H:List HO} {i j b:Nat} {ts:Ts},az H→Stk b ts→ll H i j b ts→Calls C 7 "written" [.loc i] H (.ok (.str (ci b ts))) H:=fun hz g S=>rf (k:=6) F_written hz g S fun H hz S=>rms hz g S
 have lsg: ∀ (H:List HO) (n:Int),Calls C 1 "_law_signs" [.int n] H (.ok (.str (sgn n))) H:=fun H n=>wp (k:=0) F__law_signs n
 have hfa:C.fa "law" =some fa:=by
  obtain ⟨a,e⟩:=Option.isSome_iff_exists.mp (show (wZ (nv w.params) "law").isSome=true by kernel_rfl)
  have h:=mg_of KX T.g (lU e)
  rw [show mg "law" =some (.ref fa) from hmg] at h
  cases h
  exact (show C.fa "law" =wZ (nv w.params) "law" by kernel_rfl).trans e
 refine vT (C:=C) (k:=11) (n:=63) rfl rfl rfl hg rfl (by decide) hpre hwl hfa (by decide) fun ns hn=>?_
 have cell: ∀ (H:List HO) (j:Nat),Calls C 1 "_law_cell_at" [.lst (ns.map .int),.int j] H (.ok (.int (ns.getD j 0))) H:=fun H j=>rk (k:=0) F__law_cell_at ns j
 have txt: ∀ {H:List HO} {b:Nat} {ts us:Ts} {v:V},Stk b ts→fk H v (us.map pr)→ts.Perm us→Calls C 2 "_law_text" [v,.int b] H (.ok (.str (ci b ts))) H:=fun g hv pm=>wv (k:=1) F__law_text g hv pm lsg
 have rdX: ∀ {H:List HO} {T:List Nat},az H→T.length≤16000000→Bad T→Calls C 8 "read" [.str T] H (.err "NoStore") H:=fun hz hT bad=>wt (k:=7) F_read hz hT bad (fun H w most i h hm=>(zd (k:=0) F_number_of h hm).mono (by decide)) (fun H w most hz h=>(zc (k:=0) F_number_of hz h).mono (by decide)) (fun b h1 h2=>(tE (k:=0) F_Store_init wH uh (Int.ofNat_le.mpr h1) (Int.ofNat_le.mpr h2)).mono (by decide)) (fun b us n v hl h0 h1=>(put n v stAt2 hl h0 h1).mono (by decide)) (fun b us g=>wr (jG hz (fun _=>HO.noConfusion) fun _=>HO.noConfusion) g stAt2)
 exact wx (k:=10) F_law ⟨fun H j=>(cell H j).mono (by decide),fun g hv pm=>(txt g hv pm).mono (by decide),fun c o h1 h2 h3=>let ⟨U,u1,u2⟩:=rj (k:=1) F__law_changed h1 h2 h3 c o fun H=>Bx (k:=0) F__law_odd o; ⟨U,u1,u2.mono (by decide)⟩,
  fun hT=>(ww (k:=2) F__law_read hT (fun H w=>(zf (k:=0) F__law_number w).mono (by decide)) fun H b ts us v g hv pm=>txt g hv pm).mono (by decide),fun hz hT bad=>(rg (k:=8) F__law_refused hz (rdX hz hT bad) ((wy (k:=0) F__law_alone bF rfl).mono (by decide))).mono (by decide),
  fun hz g=>(zb (k:=7) F_read hz g (fun H i most h1 h2=>(zd (k:=0) F_number_of (ou h1) h2).mono (by decide)) ((tE (k:=0) F_Store_init wH uh (Int.ofNat_le.mpr g.b1) (Int.ofNat_le.mpr g.b64)).mono (by decide)) (fun us n v hl h0 h1=>(put n v stAt2 hl h0 h1).mono (by decide)) (wr (jG hz (fun _=>HO.noConfusion) fun _=>HO.noConfusion) g stAt2)).mono (by decide),
  fun H n=>(wm (k:=0) F__law_whole n).mono (by decide),fun S=>(sV (k:=0) F_Store_things S).mono (by decide)⟩
end Mine
set_option maxRecDepth 100000 in
set_option maxHeartbeats 8000000 in
theorem PySem.Challenge.cw_uf050020_12_holds : PySem.Challenge.rw_uf050020_12.Holds := by
  exact Mine.walk12
