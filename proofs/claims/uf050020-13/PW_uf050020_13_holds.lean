import PyProof.Rows.All
import PyProof.Rows.SortShell
import PyProof.Rows.SortWalk
import KE.KIsAll
import PyProof.ExcAttrAll.ValueError
import PyProof.P3Statements
import PyProof.CompFree
import PyProof.RangeIter
import PyProof.StrWalks
import PyProof.TupleIter
import PyProof.WalksMore
import PyProof.Cells
import PyProof.DefCall
import PyProof.RaisesMany
import PyProof.StationsW
import PyProof.Rows.Own
import PyProof.DictStraight
import OpenK.KWalk
import PyProof.PureInt
import PyProof.StrOps
import PyProof.Rows.RuleB_sub
import PyProof.Rows.RuleB_mul
import PyProof.Rows.RuleB_mod
import PyProof.Rows.RuleB_small
import PyProof.Rows.RuleB_floordiv
import PyProof.Rows.RuleC_int
import PyProof.Rows.RuleC_bool
import PyProof.Rows.RuleIs2
import PyProof.Rows.Nodes
import PyProof.Rows.Chain
import PyProof.Rows.EqNone
import PyProof.LetGo
import PyProof.Rows.TupSub
import PyProof.Rows.Lst
import PyProof.SliceStr2
import PyProof.SliceMore
import PyProof.Ascii
import PyProof.IsInstance
import PyProof.IsInstanceH
import PyProof.IsiNone
import PyProof.IsiFacts
import PyProof.CallStr
import PyProof.Conv_int_bool
import PyProof.DictTruth
import PyProof.DictRoads
import PyProof.ListCopy
import PyProof.RangeFor
import PyProof.Rows.Range3
import PyProof.Rows.SeqMore
import PyProof.Rows.CountFlat
import PyProof.SeqI3
import PyProof.WalkInts
import PyProof.Rows.SeqJoint
import PyProof.StrCalls3
import PyProof.Rows.EqDataRows
import PyProof.Rows.InDataRows
import PyProof.StrLawsIn
import PyProof.FString5
import KE.KSortTup
import PyProof.Rows.SortStr
import PyProof.StrLaws
import KE.KIntText
import KE.KDictList
import KE.KDictSum
import PyProof.StrLawsChain
import PyProof.StrLawsTight
import PyProof.MeetsStr2
import PyProof.Rows.StrJoin2
import PyProof.Rows.SeqMore2
import PyProof.Rows.StrInSeq3
import PyProof.DictCalls
import KE.KPop
import PyProof.Rows.ExtendIn
import PyProof.Rows.AttrNodeAny
import PyProof.EvalArms
import PyProof.ListIndex
import PyProof.Raises
import PyProof.AssignAttr
import PyProof.ExcClass2
import PyProof.ExcBaseAll.ValueError
import OpenK.KCall
import PyProof.RulesTry
import PyProof.RulesAs
import PyProof.NsDelKeeps
import OpenK.AllK
import Wide.All
import Wide.FinOn
import PySem.Challenge.RW_uf050020_13
set_option linter.all false
set_option bootstrap.genMatcherCode false
set_option autoImplicit false
set_option genInjectivity false
set_option genSizeOf false
set_option genSizeOfSpec false
namespace Mine
noncomputable section
inductive LT where
 | v (i:Nat) | n (k:Nat) | a (x y:LT) | m (k:Nat) (x:LT)
noncomputable def LT.den (c:List Nat):LT→Nat
 | .v i=>c.getD i 0
 | .n k=>k
 | .a x y=>x.den c+y.den c
 | .m k x=>k*x.den c
noncomputable def me:List Nat→List Nat→List Nat
 | []=>fun q=>q
 | x::p=>fun q=>(x+q.headD 0)::me p q.tail
noncomputable def rW (k:Nat):List Nat→List Nat
 | []=>[]
 | x::p=>k*x::rW k p
noncomputable def Ad:Nat→List Nat
 | 0=>[1]
 | n+1=>0::Ad n
noncomputable def LT.pol:LT→List Nat
 | .v i=>Ad (i+1)
 | .n k=>[k]
 | .a x y=>me x.pol y.pol
 | .m k x=>rW k x.pol
noncomputable def pev (p:List Nat) (c:List Nat):Nat:=match p with
 | []=>0
 | x::p=>x*c.headD 0+pev p c.tail
noncomputable def ple:List Nat→List Nat→Bool
 | []=>fun _=>true
 | x::p=>fun q=>Nat.ble x (q.headD 0) && ple p q.tail
theorem cY: ∀ (p q c:List Nat),pev (me p q) c=pev p c+pev q c
 | [],q,c=>(Nat.zero_add _).symm
 | x::p,[],c=>by
  show (x+0)*c.headD 0+pev (me p []) c.tail=_
  rw [cY p [] c.tail]; rfl
 | x::p,y::q,c=>by
  show (x+y)*c.headD 0+pev (me p q) c.tail=x*c.headD 0+pev p c.tail+(y*c.headD 0+pev q c.tail)
  rw [cY p q c.tail,Nat.add_mul,Nat.add_add_add_comm]
theorem fu (k:Nat): ∀ p c:List Nat,pev (rW k p) c=k*pev p c
 | [],c=>rfl
 | x::p,c=>by
  show k*x*c.headD 0+pev (rW k p) c.tail=k*(x*c.headD 0+pev p c.tail)
  rw [fu k p c.tail,Nat.mul_add,Nat.mul_assoc]
theorem nu: ∀ (i:Nat) (c:List Nat),pev (Ad i) c=c.getD i 0
 | 0,c=>by
  show 1*c.headD 0+0=_
  rw [Nat.one_mul]; cases c<;>rfl
 | i+1,c=>by
  show 0*c.headD 0+pev (Ad i) c.tail=_
  rw [Nat.zero_mul,Nat.zero_add,nu i c.tail]; cases c<;>rfl
theorem LT.sound (c:List Nat): ∀ t:LT,t.den c=pev t.pol (1::c)
 | .v i=>(nu (i+1) (1::c)).symm
 | .n k=>(Nat.mul_one k).symm
 | .a x y=>by rw [LT.pol,cY,← LT.sound c x,← LT.sound c y]; rfl
 | .m k x=>by rw [LT.pol,fu,← LT.sound c x]; rfl
theorem qr: ∀ (p q c:List Nat),ple p q=true→pev p c≤pev q c
 | [],q,c,_=>Nat.zero_le _
 | x::p,[],c,h=>by
  obtain ⟨h1,h2⟩:=Bool.and_eq_true_iff.mp h
  have a:=qr p [] c.tail h2
  have b:=Nat.eq_zero_of_le_zero (Nat.le_of_ble_eq_true h1)
  subst b
  show 0*_+_≤0
  rw [Nat.zero_mul,Nat.zero_add]; exact a
 | x::p,y::q,c,h=>by
  obtain ⟨h1,h2⟩:=Bool.and_eq_true_iff.mp h
  exact Nat.add_le_add (Nat.mul_le_mul_right _ (Nat.le_of_ble_eq_true h1)) (qr p q c.tail h2)
noncomputable def lhs:List (Nat×LT×LT)→List Nat
 | []=>[]
 | h::r=>me (rW h.1 h.2.1.pol) (lhs r)
noncomputable def rhs:List (Nat×LT×LT)→List Nat
 | []=>[]
 | h::r=>me (rW h.1 h.2.2.pol) (rhs r)
noncomputable def tm (c:List Nat) (G:Prop):List (Nat×LT×LT)→Prop
 | []=>G
 | h::r=>h.2.1.den c≤h.2.2.den c→tm c G r
theorem nG (c:List Nat) {G:Prop}: ∀ hs:List (Nat×LT×LT),(pev (lhs hs) (1::c)≤pev (rhs hs) (1::c)→G)→tm c G hs
 | [],k=>k (Nat.le_refl _)
 | h::r,k=>fun q=>nG c r fun z=>k (by
  rw [lhs,rhs,cY,cY,fu,fu,← LT.sound,← LT.sound]
  exact Nat.add_le_add (Nat.mul_le_mul_left _ q) z)
theorem lin (c:List Nat) (hs:List (Nat×LT×LT)) (m:Nat) (l r:LT) (ok:ple (me [1] (me (rW m l.pol) (rhs hs))) (me [m] (me (rW m r.pol) (lhs hs)))=true):tm c (l.den c≤r.den c) hs:=
 nG c hs fun h=>by
  have q:=qr _ _ (1::c) ok
  rw [cY,cY,cY,cY,fu,fu,← LT.sound,← LT.sound] at q
  have q:1*1+0+(m*l.den c+pev (rhs hs) (1::c))≤m*1+0+(m*r.den c+pev (lhs hs) (1::c)):=q
  refine Nat.le_of_not_lt fun z=>?_
  have z':m*(r.den c+1)≤m*l.den c:=Nat.mul_le_mul_left m z
  rw [Nat.mul_add] at z'
  lia
noncomputable def trv:Nat→LT
 | 0=>.n 1
 | j+1=>.v j
noncomputable def tr:List Nat→LT
 | []=>.n 0
 | i::r=>r.foldl (fun a j=>.a a (trv j)) (trv i)
noncomputable def trp:List (List Nat×List Nat)→List (Nat×LT×LT)
 | []=>[]
 | h::r=>(1,tr h.1,tr h.2)::trp r
theorem li (c:List Nat) (hs:List (List Nat×List Nat)) (l r:List Nat) (ok:ple (me [1] (me (rW 1 (tr l).pol) (rhs (trp hs)))) (me [1] (me (rW 1 (tr r).pol) (lhs (trp hs))))=true):tm c ((tr l).den c≤(tr r).den c) (trp hs):=
 lin c (trp hs) 1 (tr l) (tr r) ok
theorem l_e {a b:Nat} (h:a=b):a≤b:=Nat.le_of_eq h
theorem l_s {a b:Nat} (h:a=b):b≤a:=Nat.le_of_eq h.symm
theorem l_n {a b:Nat} (h: ¬ a≤b):b+1≤a:=Nat.lt_of_not_le h
theorem l_t {a b:Nat} (h: ¬ a < b):b≤a:=Nat.le_of_not_lt h
theorem l_g (a b:Nat):a≤a - b+b:=Nat.le_add_of_sub_le (Nat.le_refl _)
theorem l_d {a b:Nat} (h:b≤a):a - b+b≤a:=Nat.le_of_eq (Nat.sub_add_cancel h)
theorem l_o {a b:Nat} (h:a≤b):a - b≤0:=Nat.le_of_eq (Nat.sub_eq_zero_of_le h)
theorem l_p {a b:Nat} (h:1≤a - b):a - b+b≤a:=l_d (Nat.le_of_lt (Nat.lt_of_sub_pos h))
theorem l_m {a b:Nat} (h:a≤b):a≤min a b:=Nat.le_min.mpr ⟨Nat.le_refl _,h⟩
theorem l_r {a b:Nat} (h:b≤a):b≤min a b:=Nat.le_min.mpr ⟨h,Nat.le_refl _⟩
theorem l_x {a b:Nat} (h:b≤a):max a b≤a:=Nat.max_le.mpr ⟨Nat.le_refl _,h⟩
theorem l_y {a b:Nat} (h:a≤b):max a b≤b:=Nat.max_le.mpr ⟨h,Nat.le_refl _⟩
theorem l_a {a b:Nat} (h:a≤b) (h':b≤a):a=b:=Nat.le_antisymm h h'
theorem l_z (h:1≤0):False:=Nat.not_succ_le_zero 0 h
end
noncomputable section
open PySem PyProof.Rows
noncomputable def kAt (κ:Keyed→Int) (xs:Array Keyed) (i:Nat):Int:=(xs[i]?).elim 0 κ
theorem aY {κ:Keyed→Int} {xs ys:Array Keyed} {i j:Nat} (h:xs[i]?= ys[j]?):kAt κ xs i=kAt κ ys j:=by unfold kAt; rw [h]
structure SB (kd:SortKind) (a₀:Array Keyed) (st:SortSt):Prop where
 perm:(arrOf st).Perm a₀
 kind:kindOf st=kd
 failed:failedOf st=none
noncomputable def Seg (κ:Keyed→Int) (xs:Array Keyed) (lo hi:Nat):Prop:=∀ i j,lo≤i→i≤j→j < hi→kAt κ xs i≤kAt κ xs j
noncomputable def iR (xs ys:Array Keyed) (lo:Nat):Prop:=∀ i,i < lo→ys[i]?= xs[i]?
theorem SB.size {kd:SortKind} {a₀:Array Keyed} {st:SortSt} (h:SB kd a₀ st):(arrOf st).size=a₀.size:=h.perm.size_eq
theorem SB.setArr {kd:SortKind} {a₀:Array Keyed} {st:SortSt} (h:SB kd a₀ st) {xs:Array Keyed} (hp:xs.Perm (arrOf st)):SB kd a₀ (setArr st xs):=
 ⟨hp.trans h.perm,h.kind,h.failed⟩
theorem SB.at {kd:SortKind} {a₀:Array Keyed} {st:SortSt} (h:SB kd a₀ st) {i:Nat} (hi:i < a₀.size): ∃ p,(arrOf st)[i]?= some p∧p∈a₀.toList:=by
 have hi':i < (arrOf st).size:=by rw [h.size]; exact hi
 exact ⟨(arrOf st)[i],getElem?_pos _ i hi',(Array.perm_iff_toList_perm.mp h.perm).mem_iff.mp (by simp)⟩
section
variable {prog:Program} {w:World} {A:Around} {E:Value→Shared→Prop} {s:Shared} {kd:SortKind} {κ:Keyed→Int} {a₀:Array Keyed}
noncomputable def pA (prog:Program) (w:World) (A:Around) (E:Value→Shared→Prop) (s:Shared) (kd:SortKind) (κ:Keyed→Int) (a₀:Array Keyed):Prop:=
 ∀ x y,x∈a₀.toList→y∈a₀.toList→∀ (st:SortSt) (Q:Option Bool→SortSt→Prop),kindOf st=kd→Q (some (decide (κ x < κ y))) st→wpS (model prog w) A E s (lt' x y) Q st
theorem gu {xs:Array Keyed} {i:Nat} {p:Keyed} {st:SortSt} {Q:Keyed→SortSt→Prop} (e:xs[i]?= some p) (h:Q p st):wpS (model prog w) A E s (elem' xs i) Q st:=by
 rw [elem'_eq,e]; exact wpS_pure h
theorem gP {st:SortSt} {i j:Nat} {Q:Option Bool→SortSt→Prop} (hL:pA prog w A E s kd κ a₀) (hB:SB kd a₀ st) (hi:i < a₀.size) (hj:j < a₀.size)
  (h:Q (some (decide (kAt κ (arrOf st) i < kAt κ (arrOf st) j))) st):wpS (model prog w) A E s (ltAt' i j) Q st:=by
 obtain ⟨p,e1,m1⟩:=hB.at hi
 obtain ⟨q,e2,m2⟩:=hB.at hj
 rw [ltAt'_eq]
 refine wpS_bind (wpS_get ?_)
 refine wpS_bind (gu e1 (wpS_bind (gu e2 (hL p q m1 m2 st Q hB.kind ?_))))
 simpa only [kAt,e1,e2,Option.elim_some] using h
theorem nK {xs:Array Keyed} {src d:Nat} (hs:src < xs.size) (hd:d≤src) (k:Nat):
  kAt κ (bubble xs src d) k=if k=src - d then kAt κ xs src else if src - d < k∧k≤src then kAt κ xs (k - 1) else kAt κ xs k:=by
 have e:=getElem?_bubble hs d hd k
 by_cases h1:k=src - d
 ·rw [if_pos h1] at e ⊢; exact aY e
 ·rw [if_neg h1] at e ⊢
  by_cases h2:src - d < k∧k≤src
  ·rw [if_pos h2] at e ⊢; exact aY e
  ·rw [if_neg h2] at e ⊢; exact aY e
theorem ke {xs:Array Keyed} {i j:Nat} (hj:j≤xs.size) (k:Nat):
  kAt κ (mirror xs i j ((j - i) / 2)) k=if i≤k∧k < j then kAt κ xs (i+j - 1 - k) else kAt κ xs k:=by
 have e:=getElem?_mirror_all (i:=i) hj k
 by_cases h1:i≤k∧k < j
 ·rw [if_pos h1] at e ⊢; exact aY e
 ·rw [if_neg h1] at e ⊢; exact aY e
theorem bW {xs:Array Keyed} {i j:Nat} (hj:j≤xs.size) (heq: ∀ k,i≤k→k < j→kAt κ xs k=kAt κ xs (j - 1)) (k:Nat):
  kAt κ (mirror xs i j ((j - i) / 2)) k=kAt κ xs k:=by
 rw [ke hj]
 by_cases z:i≤k∧k < j
 ·rw [if_pos z,heq _ (by exact li [i,_,k,j,_] [([3,0],[4]),([1,4],[5,0]),([5],[2,3])] [1] [2] rfl z.2 (l_g _ _) (l_g _ _)) (by exact li [_,j,i,k,_] [([3],[4]),([5,0],[3,2]),([1,4],[5])] [1,0] [2] rfl z.1 (l_d (li [i,j,k] [([3,0],[2])] [0] [1,2] rfl z.2)) (l_d (li [k,_,j,i] [([1,0],[3]),([4,3],[2,0])] [1] [2] rfl z.2 (l_g _ _)))),heq k z.1 z.2]
 ·rw [if_neg z]
theorem bi {xs:Array Keyed} {i j lo:Nat} (hj:j≤xs.size) (hlo:lo≤i):iR xs (mirror xs i j ((j - i) / 2)) lo:=fun k hk=>by
 rw [getElem?_mirror_all hj k,if_neg (by exact fun q=>l_z (lin [lo,i,k] [(1,.v 0,.v 1),(1,.a (.v 2) (.n 1),.v 0),(1,.v 1,.v 2)] 0 (.n 1) (.n 0) rfl hlo hk q.1))]
theorem fN {l r:Nat} (h: ¬ l ≥ r):l≤(l+r) / 2∧(l+r) / 2+1≤r:=
 ⟨(Nat.le_div_iff_mul_le (by decide)).mpr (by rw [Nat.mul_two]; exact Nat.add_le_add_left (Nat.le_of_not_le h) l),Nat.div_lt_of_lt_mul (by rw [Nat.two_mul]; exact Nat.add_lt_add_right (Nat.lt_of_not_le h) r)⟩
theorem tF {l m r k x:Nat} (h1:l≤m) (h2:m+1≤r) (hm:r - l≤k - x):m - l≤k - (x+1):=by
 have:m - l+1≤r - l:=by rw [← Nat.sub_add_comm h1]; exact Nat.sub_le_sub_right h2 l
 exact (Nat.le_sub_of_add_le (Nat.le_trans this hm):m - l≤k - x - 1)
theorem tG {l m r k x:Nat} (h1:l≤m) (hm:r - l≤k - x):r - (m+1)≤k - (x+1):=Nat.sub_le_sub_right (Nat.le_trans (Nat.sub_le_sub_left h1 r) hm) 1
theorem tI {p q k:Nat} {a b c:Int} (h:k < p):(if k=p then a else if p < k∧k≤q then b else c)=c:=by rw [if_neg (Nat.ne_of_lt h),if_neg fun z=>Nat.lt_asymm h z.1]
theorem nM {p q k:Nat} {a b c:Int} (h:p < k) (h':k≤q):(if k=p then a else if p < k∧k≤q then b else c)=b:=by rw [if_neg (Nat.ne_of_gt h),if_pos ⟨h,h'⟩]
theorem zy {f:Nat→Int} {lo p q i j:Nat} (hs: ∀ i j,lo≤i→i≤j→j < q→f i≤f j) (hl: ∀ i,lo≤i→i < p→f i≤f q) (hh: ∀ i,p≤i→i < q→f q < f i) (hlp:lo≤p) (hpq:p≤q) (h1:lo≤i) (h2:i≤j) (h3:j < q+1):
  (if i=p then f q else if p < i∧i≤q then f (i - 1) else f i)≤(if j=p then f q else if p < j∧j≤q then f (j - 1) else f j):=by
 have jq:j≤q:=Nat.le_of_lt_succ h3
 rcases Nat.lt_trichotomy i p with a | a | a
 ·rw [tI a]
  rcases Nat.lt_trichotomy j p with b | b | b
  ·rw [tI b]; exact hs i j h1 h2 (Nat.lt_of_lt_of_le b hpq)
  ·rw [if_pos b]; exact hl i h1 a
  ·rw [nM b jq]; exact hs i (j - 1) h1 (Nat.le_sub_one_of_lt (Nat.lt_trans a b)) (Nat.lt_of_lt_of_le (Nat.sub_one_lt_of_lt b) jq)
 ·rw [if_pos a]
  rcases Nat.eq_or_lt_of_le (a▸h2:p≤j) with b | b
  ·rw [if_pos b.symm]; exact Int.le_refl _
  ·rw [nM b jq]; exact Int.le_of_lt (hh (j - 1) (Nat.le_sub_one_of_lt b) (Nat.lt_of_lt_of_le (Nat.sub_one_lt_of_lt b) jq))
 ·have b:p < j:=Nat.lt_of_lt_of_le a h2
  rw [nM a (Nat.le_trans h2 jq),nM b jq]
  exact hs (i - 1) (j - 1) (Nat.le_trans hlp (Nat.le_sub_one_of_lt a)) (Nat.sub_le_sub_right h2 1) (Nat.lt_of_lt_of_le (Nat.sub_one_lt_of_lt b) jq)
theorem lJ {st:SortSt} {lo n ok:Nat} {Q:Bool→SortSt→Prop} (hL:pA prog w A E s kd κ a₀) (hn:lo+n≤a₀.size) (hok:ok≤n) (hB:SB kd a₀ st) (hs:Seg κ (arrOf st) lo (lo+ok))
  (h: ∀ st',SB kd a₀ st'→pendingOf st'=pendingOf st→Seg κ (arrOf st') lo (lo+n)→iR (arrOf st) (arrOf st') lo→Q true st'):wpS (model prog w) A E s (binarySort' lo n ok) Q st:=by
 rw [binarySort'_eq]
 refine wpS_bind (wpS_mono (wpS_forRange (I:=fun k c st'=>c=(none,())∧SB kd a₀ st'∧pendingOf st'=pendingOf st∧iR (arrOf st) (arrOf st') lo∧Seg κ (arrOf st') lo (lo+min k n))
  (Q:=fun c st'=>c=(none,())∧SB kd a₀ st'∧pendingOf st'=pendingOf st∧iR (arrOf st) (arrOf st') lo∧Seg κ (arrOf st') lo (lo+n)) ?step ?fin ?init) ?post)
 case post=>
  rintro c st' ⟨rfl,hB',hp,ha,hs'⟩
  exact wpS_pure (h st' hB' hp hs' ha)
 case init=>
  refine ⟨rfl,hB,rfl,fun _ _=>rfl,fun i j hl hij hj=>?_⟩
  by_cases h1:ok=0
  ·have:i=j:=by exact l_a (hij) (li [j,i,lo,_,_] [([3],[2]),([1,0],[3,4]),([5],[0]),([4],[5])] [1] [2] rfl hl hj (l_y (li [ok] [([1],[])] [1] [0] rfl (l_e h1))) (Nat.min_le_left _ _))
   subst this; exact Int.le_refl _
  ·exact hs i j hl hij (by exact li [j,lo,ok,_,_] [([1,0],[2,4]),([5],[3]),([4],[5])] [1,0] [2,3] rfl hj (l_x (lin [ok] [(1,.a (.n 0) (.n 1),.v 0)] 1 (.n 1) (.v 0) rfl (Nat.lt_of_le_of_ne (li [ok] [] [] [1] rfl ) (Ne.symm h1)))) (Nat.min_le_left _ _))
 case fin=>
  rintro c st' ⟨hc,hB',hp,ha,hs'⟩
  refine ⟨hc,hB',hp,ha,?_⟩
  rwa [show min (max (max ok 1) n) n=n by exact Nat.min_eq_right ((Nat.le_max_right _ _))] at hs'
 case step=>
  rintro k c st' hak hkn ⟨rfl,hB',hp,ha,hs'⟩
  rw [show min k n=k by exact Nat.min_eq_left (li [k,n] [([1,0],[2])] [1] [2] rfl hkn)] at hs'
  have hk:lo+k < a₀.size:=by exact li [lo,k,_,n] [([1,4],[3]),([2,0],[4])] [1,2,0] [3] rfl hn hkn
  refine wpS_bind (wpS_mono (wpS_forRange (I:=fun x c st''=>st''=st'∧∃ l r,c=(none,l,r)∧l≤r∧r≤k∧r - l≤k - x∧
    (∀ i,i < l→kAt κ (arrOf st') (lo+i)≤kAt κ (arrOf st') (lo+k))∧(∀ i,r≤i→i < k→kAt κ (arrOf st') (lo+k) < kAt κ (arrOf st') (lo+i)))
   (Q:=fun c st''=>st''=st'∧∃ l r,c=(none,l,r)∧l≤k∧
    (∀ i,i < l→kAt κ (arrOf st') (lo+i)≤kAt κ (arrOf st') (lo+k))∧(∀ i,l≤i→i < k→kAt κ (arrOf st') (lo+k) < kAt κ (arrOf st') (lo+i))) ?istep ?ifin ?iinit) ?ipost)
  case iinit=>exact ⟨rfl,0,k,rfl,by exact li [k] [] [] [1] rfl,by exact li [k] [] [1] [1] rfl,by exact li [_] [] [1] [1] rfl,fun i hi=>by exact (l_z (lin [i] [(1,.a (.v 0) (.n 1),.n 0)] 0 (.n 1) (.n 0) rfl hi)).elim,fun i h1 h2=>by exact (l_z (lin [k,i] [(1,.v 0,.v 1),(1,.a (.v 1) (.n 1),.v 0)] 0 (.n 1) (.n 0) rfl h1 h2)).elim⟩
  case ifin=>
   rintro c st'' ⟨rfl,l,r,rfl,hlr,hrk,hm,hlo,hhi⟩
   have:l=r:=by exact l_a (hlr) (li [r,l,_,_,k,_] [([3],[4]),([1],[3,2]),([5],[6]),([4,6],[5])] [1] [2] rfl hm (l_g _ _) (Nat.le_max_right _ _) (l_d ((l_y (li [k] [] [] [1] rfl )))))
   subst this
   exact ⟨rfl,l,l,rfl,hrk,hlo,hhi⟩
  case istep=>
   rintro x c st'' _ hxk ⟨rfl,l,r,rfl,hlr,hrk,hm,hlo,hhi⟩
   dsimp only
   by_cases hge:l ≥ r
   ·rw [if_pos hge]
    have:l=r:=by exact l_a (hlr) (hge)
    subst this
    exact wpS_pure ⟨rfl,l,l,rfl,hrk,hlo,hhi⟩
   ·rw [if_neg hge]
    refine wpS_bind (gP hL hB' hk (Nat.lt_trans (Nat.add_lt_add_left (Nat.lt_of_lt_of_le (fN hge).2 hrk) lo) hk) ?_)
    by_cases hless:kAt κ (arrOf st'') (lo+k) < kAt κ (arrOf st'') (lo+(l+r) / 2)
    ·simp only [hless,decide_true,if_true]
     refine wpS_pure ⟨rfl,l,(l+r) / 2,rfl,(fN hge).1,Nat.le_trans (Nat.le_of_succ_le (fN hge).2) hrk,tF (fN hge).1 (fN hge).2 hm,hlo,fun i h1 h2=>?_⟩
     exact Int.lt_of_lt_of_le hless (hs' _ _ (by exact li [lo,_] [] [1] [1,2] rfl) (by exact li [lo,_,i] [([2],[3])] [1,2] [1,3] rfl h1) (by exact li [lo,i,k] [([2,0],[3])] [1,2,0] [1,3] rfl h2))
    ·simp only [hless,decide_false,Bool.false_eq_true,if_false]
     refine wpS_pure ⟨rfl,(l+r) / 2+1,r,rfl,(fN hge).2,hrk,tG (fN hge).1 hm,fun i h1=>?_,hhi⟩
     exact Int.le_trans (hs' (lo+i) (lo+(l+r) / 2) (Nat.le_add_right _ _) (Nat.add_le_add_left (Nat.le_of_lt_succ h1) lo) (Nat.add_lt_add_left (Nat.lt_of_lt_of_le (fN hge).2 hrk) lo)) (Int.not_lt.mp hless)
  case ipost=>
   rintro c st'' ⟨rfl,l,r,rfl,hlk,hlo,hhi⟩
   show wpS _ _ _ _ (do moveDown' (lo+k) (lo+l); pure (ForInStep.yield (none,()))) _ _
   rw [moveDown'_eq]
   have hks:lo+k < (arrOf st'').size:=by rw [hB'.size]; exact hk
   have hd:lo+k - (lo+k - (lo+l))=lo+l:=by exact l_a (lin [_,lo,l,k,_] [(1,.a (.v 1) (.v 3),.a (.v 4) (.a (.v 1) (.v 2))),(1,.a (.v 0) (.v 4),.a (.v 1) (.v 3))] 1 (.v 0) (.a (.v 1) (.v 2)) rfl (l_g _ _) (l_d (lin [_,lo,k,l] [(1,.a (.v 0) (.a (.v 1) (.v 3)),.a (.v 1) (.v 2))] 1 (.v 0) (.a (.v 1) (.v 2)) rfl (l_d (li [lo,l,k] [([2],[3])] [1,2] [1,3] rfl hlk))))) (lin [lo,l,_,_,k] [(1,.a (.v 3) (.a (.v 0) (.v 1)),.a (.v 0) (.v 4)),(1,.a (.v 0) (.v 4),.a (.v 2) (.v 3))] 1 (.a (.v 0) (.v 1)) (.v 2) rfl (l_d (li [lo,l,k] [([2],[3])] [1,2] [1,3] rfl hlk)) (l_g _ _))
   refine wpS_bind (wpS_modify (wpS_pure ⟨rfl,hB'.setArr (bubble_perm _ _ _),hp,fun i hi=>?_,?_⟩))
   ·show (bubble (arrOf st'') (lo+k) (lo+k - (lo+l)))[i]?= _
    rw [getElem?_bubble hks _ (by exact li [_,lo,k,_] [([4,1],[2,3])] [1] [2,3] rfl (l_p (li [_,lo,l,i] [([2,3],[1]),([4,0],[2])] [0] [1] rfl (l_s hd) hi))) i,if_neg (by exact fun q=>l_z (lin [lo,l,_,i] [(1,.a (.v 0) (.v 1),.v 2),(1,.a (.v 3) (.n 1),.v 0),(1,.v 2,.v 3)] 0 (.n 1) (.n 0) rfl (l_s hd) hi (l_s q))),if_neg (by exact fun q=>l_z (lin [lo,l,_,i] [(1,.a (.v 0) (.v 1),.v 2),(1,.a (.v 3) (.n 1),.v 0),(1,.a (.v 2) (.n 1),.v 3)] 0 (.n 1) (.n 0) rfl (l_s hd) hi q.1))]
    exact ha i hi
   ·rw [show min (k+1) n=k+1 by exact Nat.min_eq_left (hkn)]
    intro i j hli hij hj
    show kAt κ (bubble (arrOf st'') (lo+k) (lo+k - (lo+l))) i≤kAt κ (bubble (arrOf st'') (lo+k) (lo+k - (lo+l))) j
    rw [nK hks (by exact li [_,lo,k,_] [([4,1],[2,3])] [1] [2,3] rfl (l_d (lin [_,lo,k,l] [(1,.a (.v 0) (.a (.v 1) (.v 3)),.a (.v 1) (.v 2))] 1 (.v 0) (.a (.v 1) (.v 2)) rfl (l_d (li [lo,l,k] [([2],[3])] [1,2] [1,3] rfl hlk))))),nK hks (by exact li [_,lo,k,_] [([4,1],[2,3])] [1] [2,3] rfl (l_d (lin [_,lo,k,l] [(1,.a (.v 0) (.a (.v 1) (.v 3)),.a (.v 1) (.v 2))] 1 (.v 0) (.a (.v 1) (.v 2)) rfl (l_d (li [lo,l,k] [([2],[3])] [1,2] [1,3] rfl hlk))))),hd]
    have hlo': ∀ i,lo≤i→i < lo+l→kAt κ (arrOf st'') i≤kAt κ (arrOf st'') (lo+k):=fun i h1 h2=>by
     have:=hlo (i - lo) (by exact li [_,l,i,lo] [([3,0],[4,2]),([1,4],[3])] [1,0] [2] rfl h2 (l_d (h1))); rwa [show lo+(i - lo)=i by exact l_a (li [lo,_,i] [([2,1],[3])] [1,2] [3] rfl (l_d (h1))) (li [i,lo,_] [([1],[3,2])] [1] [2,3] rfl (l_g _ _))] at this
    have hhi': ∀ i,lo+l≤i→i < lo+k→kAt κ (arrOf st'') (lo+k) < kAt κ (arrOf st'') i:=fun i h1 h2=>by
     have:=hhi (i - lo) (by exact li [l,_,lo,i] [([3,1],[4]),([4],[2,3])] [1] [2] rfl h1 (l_g _ _)) (by exact li [_,k,i,lo] [([3,0],[4,2]),([1,4],[3])] [1,0] [2] rfl h2 (l_d (li [lo,i,l] [([1,3],[2])] [1] [2] rfl h1))); rwa [show lo+(i - lo)=i by exact l_a (li [lo,_,i] [([2,1],[3])] [1,2] [3] rfl (l_d (li [lo,i,l] [([1,3],[2])] [1] [2] rfl h1))) (li [i,lo,_] [([1],[3,2])] [1] [2,3] rfl (l_g _ _))] at this
    exact zy hs' hlo' hhi' (Nat.le_add_right _ _) (Nat.add_le_add_left hlk lo) hli hij hj
end
end
noncomputable section
open PySem PyProof.Rows
noncomputable def pB (κ:Keyed→Int) (xs:Array Keyed) (lo hi:Nat):Prop:=∀ i j,lo≤i→i≤j→j < hi→kAt κ xs j≤kAt κ xs i
section
variable {prog:Program} {w:World} {A:Around} {E:Value→Shared→Prop} {s:Shared} {kd:SortKind} {κ:Keyed→Int} {a₀:Array Keyed}
theorem Seg.more {xs:Array Keyed} {lo x:Nat} (h:Seg κ xs lo x) (hl:lo < x) (hx: ¬ kAt κ xs x < kAt κ xs (x - 1)):Seg κ xs lo (x+1):=fun i j hi hij hj=>by
 by_cases hjx:j < x
 ·exact h i j hi hij hjx
 ·obtain rfl:j=x:=by exact l_a (li [j,x] [([1,0],[2,0])] [1] [2] rfl hj) ((l_t hjx))
  by_cases hi':i=j
  ·subst hi'; exact Int.le_refl _
  ·exact Int.le_trans (h i (j - 1) hi (by exact li [i,j - 1,j] [([1,0],[3]),([3],[2,0])] [1] [2] rfl (Nat.lt_of_le_of_ne (hij) hi') (l_g (j) (1))) (by exact (l_d (li [j,lo] [([2,0],[1])] [0] [1] rfl hl)))) (Int.not_lt.mp hx)
theorem pB.more {xs:Array Keyed} {lo x:Nat} (h:pB κ xs lo x) (hl:lo < x) (hx:kAt κ xs x≤kAt κ xs (x - 1)):pB κ xs lo (x+1):=fun i j hi hij hj=>by
 by_cases hjx:j < x
 ·exact h i j hi hij hjx
 ·obtain rfl:j=x:=by exact l_a (li [j,x] [([1,0],[2,0])] [1] [2] rfl hj) ((l_t hjx))
  by_cases hi':i=j
  ·subst hi'; exact Int.le_refl _
  ·exact Int.le_trans hx (h i (j - 1) hi (by exact li [i,j - 1,j] [([1,0],[3]),([3],[2,0])] [1] [2] rfl (Nat.lt_of_le_of_ne (hij) hi') (l_g (j) (1))) (by exact (l_d (li [j,lo] [([2,0],[1])] [0] [1] rfl hl))))
theorem pB.same {xs ys:Array Keyed} {lo x:Nat} (h:pB κ xs lo x) (e: ∀ k,kAt κ ys k=kAt κ xs k):pB κ ys lo x:=fun i j a b c=>by rw [e,e]; exact h i j a b c
theorem iR.trans {xs ys zs:Array Keyed} {lo:Nat} (h:iR xs ys lo) (h':iR ys zs lo):iR xs zs lo:=fun i hi=>(h' i hi).trans (h i hi)
theorem gQ {st:SortSt} {lo a nrem:Nat} {β:Type} {g:Nat→β} {bad:Nat→β} {f:Nat→β→StateT SortSt Sem (ForInStep β)} {Q:β→SortSt→Prop} (hL:pA prog w A E s kd κ a₀) (hn:lo+nrem≤a₀.size) (ha:1≤a) (han:a≤nrem) (hB:SB kd a₀ st)
  (hf: ∀ i x,f i (g x)=(do
   let __x ← ltAt' (lo+x) (lo+x - 1)
   match __x with
   | some smaller=>if smaller=true then pure (ForInStep.done (g x)) else pure (ForInStep.yield (g (x+1)))
   | _=>pure (ForInStep.done (bad x))))
  (hs:Seg κ (arrOf st) lo (lo+a))
  (h: ∀ n,a≤n→n≤nrem→Seg κ (arrOf st) lo (lo+n)→(n=nrem∨kAt κ (arrOf st) (lo+n) < kAt κ (arrOf st) (lo+n - 1))→Q (g n) st):
  wpS (model prog w) A E s (forIn [a:nrem] (g a) f) Q st:=by
 refine wpS_forRange (I:=fun x c st'=>st'=st∧c=g x∧Seg κ (arrOf st) lo (lo+x)) ?step ?fin ⟨rfl,rfl,hs⟩
 case fin=>
  rintro c st' ⟨rfl,rfl,hs'⟩
  rw [show max a nrem=nrem by exact Nat.max_eq_right (han)] at hs' ⊢
  exact h nrem han (Nat.le_refl _) hs' (.inl rfl)
 case step=>
  rintro x c st' hax hxn ⟨rfl,rfl,hs'⟩
  rw [hf]
  refine wpS_bind (gP hL hB (by exact li [lo,x,a₀.size,nrem] [([1,4],[3]),([2,0],[4])] [1,2,0] [3] rfl hn hxn) (by exact li [lo+x - 1,a₀.size,lo,nrem,x] [([3,4],[2]),([5,0],[4]),([1,0],[3,5])] [1,0] [2] rfl hn hxn (l_d (li [lo,x,a] [([0],[3]),([3],[2])] [0] [1,2] rfl ha hax))) ?_)
  by_cases hless:kAt κ (arrOf st') (lo+x) < kAt κ (arrOf st') (lo+x - 1)
  ·simp only [hless,decide_true,if_true]
   exact wpS_pure (h x hax (by exact li [x,nrem] [([1,0],[2])] [1] [2] rfl hxn) hs' (.inr hless))
  ·simp only [hless,decide_false,Bool.false_eq_true,if_false]
   exact wpS_pure ⟨rfl,rfl,hs'.more (by exact li [lo,x,a] [([0],[3]),([3],[2])] [1,0] [1,2] rfl ha hax) hless⟩
theorem mW {st:SortSt} {lo n nrem:Nat} {β:Type} {g:Nat→Nat→β} {bad:Nat→Nat→β} {f:Nat→β→StateT SortSt Sem (ForInStep β)} {Q:β→SortSt→Prop} (hL:pA prog w A E s kd κ a₀) (hn:lo+nrem≤a₀.size) (h1:1≤n) (hnn:n≤nrem) (hB:SB kd a₀ st)
  (hf: ∀ i x q,f i (g x q)=(do
   let __x ← ltAt' (lo+x) (lo+x - 1)
   match __x with
   | some smaller=>
    if smaller=true then
     if q > 0 then do
      reverseSlice' (lo+x - (q+1)) (lo+x)
      pure (ForInStep.yield (g (x+1) 0))
     else pure (ForInStep.yield (g (x+1) 0))
    else do
     let __x ← ltAt' (lo+x - 1) (lo+x)
     match __x with
     | some larger=>if larger=true then pure (ForInStep.done (g x q)) else pure (ForInStep.yield (g (x+1) (q+1)))
     | _=>pure (ForInStep.done (bad x q))
   | _=>pure (ForInStep.done (bad x q))))
  (hs:pB κ (arrOf st) lo (lo+n))
  (h: ∀ m q st',SB kd a₀ st'→pendingOf st'=pendingOf st→iR (arrOf st) (arrOf st') lo→n≤m→m≤nrem→pB κ (arrOf st') lo (lo+m)→q+1≤m→(∀ i,lo+m - (q+1)≤i→i < lo+m→kAt κ (arrOf st') i=kAt κ (arrOf st') (lo+m - 1))→Q (g m q) st'):
  wpS (model prog w) A E s (forIn [n:nrem] (g n 0) f) Q st:=by
 refine wpS_forRange (I:=fun x c st'=>∃ q,c=g x q∧SB kd a₀ st'∧pendingOf st'=pendingOf st∧iR (arrOf st) (arrOf st') lo∧pB κ (arrOf st') lo (lo+x)∧q+1≤x∧
   (∀ i,lo+x - (q+1)≤i→i < lo+x→kAt κ (arrOf st') i=kAt κ (arrOf st') (lo+x - 1))) ?step ?fin ⟨0,rfl,hB,rfl,fun _ _=>rfl,hs,by exact lin [n] [(1,.n 1,.v 0)] 1 (.a (.n 0) (.n 1)) (.v 0) rfl h1,fun i h1 h2=>by congr 1; exact l_a (lin [i,lo+n - (0+1),lo,n] [(1,.a (.v 0) (.n 1),.a (.v 2) (.v 3)),(1,.a (.v 2) (.v 3),.a (.v 1) (.a (.n 0) (.n 1)))] 1 (.v 0) (.v 1) rfl h2 (l_g (lo+n) (0+1))) (h1)⟩
 case fin=>
  rintro c st' ⟨q,rfl,hB',hp,ha,hs',hq,he⟩
  rw [show max n nrem=nrem by exact Nat.max_eq_right (hnn)] at hs' hq he ⊢
  exact h nrem q st' hB' hp ha hnn (Nat.le_refl _) hs' hq he
 case step=>
  rintro x c st' hax hxn ⟨q,rfl,hB',hp,ha,hs',hq,he⟩
  have hsz:lo+x≤(arrOf st').size:=by rw [hB'.size]; exact li [lo,x,a₀.size,nrem] [([1,4],[3]),([2,0],[4])] [1,2] [3] rfl hn hxn
  have hone: ∀ (xs:Array Keyed) (i:Nat),lo+(x+1) - (0+1)≤i→i < lo+(x+1)→kAt κ xs i=kAt κ xs (lo+(x+1) - 1):=fun xs i h1 h2=>by congr 1; exact l_a (lin [i,lo+(x+1) - (0+1),lo,x] [(1,.a (.v 0) (.n 1),.a (.v 2) (.a (.v 3) (.n 1))),(1,.a (.v 2) (.a (.v 3) (.n 1)),.a (.v 1) (.a (.n 0) (.n 1)))] 1 (.v 0) (.v 1) rfl h2 (l_g (lo+(x+1)) (0+1))) (h1)
  rw [hf]
  refine wpS_bind (gP hL hB' (by exact li [lo,x,a₀.size,nrem] [([1,4],[3]),([2,0],[4])] [1,2,0] [3] rfl hn hxn) (by exact li [lo+x - 1,a₀.size,lo,nrem,x] [([3,4],[2]),([5,0],[4]),([1,0],[3,5])] [1,0] [2] rfl hn hxn (l_d (li [lo,x,q] [([3,0],[2])] [0] [1,2] rfl hq))) ?_)
  by_cases hless:kAt κ (arrOf st') (lo+x) < kAt κ (arrOf st') (lo+x - 1)
  ·simp only [hless,decide_true,if_true]
   have hd:=hs'.more (by exact li [lo,x,q] [([3,0],[2])] [1,0] [1,2] rfl hq) (Int.le_of_lt hless)
   by_cases hq0:q > 0
   ·rw [if_pos hq0]
    exact wpS_bind (wpS_reverse (wpS_pure ⟨0,rfl,hB'.setArr (mirror_perm _ _ _ _),hp,ha.trans (bi hsz (by exact li [lo,lo+x - (q+1),q,x] [([3,0],[4]),([1,4],[2,3,0])] [1] [2] rfl hq (l_g (lo+x) (q+1)))),hd.same (bW hsz he),by exact lin [x] [] 1 (.a (.n 0) (.n 1)) (.a (.v 0) (.n 1)) rfl,hone _⟩))
   ·rw [if_neg hq0]
    exact wpS_pure ⟨0,rfl,hB',hp,ha,hd,by exact lin [x] [] 1 (.a (.n 0) (.n 1)) (.a (.v 0) (.n 1)) rfl,hone _⟩
  ·simp only [hless,decide_false,Bool.false_eq_true,if_false]
   refine wpS_bind (gP hL hB' (by exact li [lo+x - 1,a₀.size,lo,nrem,x] [([3,4],[2]),([5,0],[4]),([1,0],[3,5])] [1,0] [2] rfl hn hxn (l_d (li [lo,x,q] [([3,0],[2])] [0] [1,2] rfl hq))) (by exact li [lo,x,a₀.size,nrem] [([1,4],[3]),([2,0],[4])] [1,2,0] [3] rfl hn hxn) ?_)
   by_cases hlarger:kAt κ (arrOf st') (lo+x - 1) < kAt κ (arrOf st') (lo+x)
   ·simp only [hlarger,decide_true,if_true]
    exact wpS_pure (h x q st' hB' hp ha hax (by exact li [x,nrem] [([1,0],[2])] [1] [2] rfl hxn) hs' hq he)
   ·simp only [hlarger,decide_false,Bool.false_eq_true,if_false]
    have heqx:kAt κ (arrOf st') (lo+x)=kAt κ (arrOf st') (lo+x - 1):=by exact Int.le_antisymm (Int.not_lt.mp hlarger) (Int.not_lt.mp hless)
    refine wpS_pure ⟨q+1,rfl,hB',hp,ha,hs'.more (by exact li [lo,x,q] [([3,0],[2])] [1,0] [1,2] rfl hq) (by exact (Int.not_lt.mp hlarger)),by exact li [q,x] [([1,0],[2])] [1,0,0] [2,0] rfl hq,fun i h1 h2=>?_⟩
    rw [show lo+(x+1) - 1=lo+x by exact l_a (li [lo+(x+1) - 1,lo,x] [([1,0],[2,3,0])] [1] [2,3] rfl (l_d (li [lo,x] [] [0] [1,2,0] rfl ))) (li [lo,x,lo+(x+1) - 1] [([1,2,0],[3,0])] [1,2] [3] rfl (l_g (lo+(x+1)) (1)))]
    by_cases hix:i=lo+x
    ·subst hix; rfl
    ·rw [heqx]; exact he i (by exact li [lo+x - (q+1),i,lo+(x+1) - (q+1+1),lo,x,q] [([3],[2]),([4,5,0],[3,6,0,0]),([1,6,0],[4,5])] [1] [2] rfl h1 (l_g (lo+(x+1)) (q+1+1)) (l_d (li [q,lo,x,lo+(x+1) - (q+1+1)] [([4,1,0,0],[2,3,0])] [1,0] [2,3] rfl (l_d (li [q,lo,x] [([1,0],[3])] [1,0,0] [2,3,0] rfl hq))))) (by exact (Nat.lt_of_le_of_ne (li [i,lo,x] [([1,0],[2,3,0])] [1] [2,3] rfl h2) hix))
theorem pB.turn {xs:Array Keyed} {lo m:Nat} (hsz:lo+m≤xs.size) (h:pB κ xs lo (lo+m)):Seg κ (mirror xs lo (lo+m) ((lo+m - lo) / 2)) lo (lo+m):=fun i j hi hij hj=>by
 rw [ke hsz,ke hsz,if_pos (by exact ⟨hi,li [i,lo,m,j] [([1],[4]),([4,0],[2,3])] [1,0] [2,3] rfl hij hj⟩),if_pos (by exact ⟨li [lo,j,i] [([1],[3]),([3],[2])] [1] [2] rfl hi hij,hj⟩)]
 exact h _ _ (by exact lin [lo,lo+(lo+m) - 1 - j,j,m,lo+(lo+m) - 1] [(1,.a (.v 2) (.n 1),.a (.v 0) (.v 3)),(1,.a (.v 0) (.a (.v 0) (.v 3)),.a (.v 4) (.n 1)),(1,.v 4,.a (.v 1) (.v 2))] 1 (.v 0) (.v 1) rfl hj (l_g (lo+(lo+m)) (1)) (l_g (lo+(lo+m) - 1) (j))) (by exact li [lo+(lo+m) - 1 - j,lo+(lo+m) - 1 - i,i,j,lo+(lo+m) - 1] [([3],[4]),([1,4],[5]),([5],[2,3])] [1] [2] rfl hij (l_d (lin [j,lo+(lo+m) - 1,lo,m] [(1,.a (.v 0) (.n 1),.a (.v 2) (.v 3)),(1,.a (.v 2) (.a (.v 2) (.v 3)),.a (.v 1) (.n 1))] 1 (.v 0) (.v 1) rfl hj (l_g (lo+(lo+m)) (1)))) (l_g (lo+(lo+m) - 1) (i))) (by exact lin [lo+(lo+m) - 1 - i,lo,m,i,lo+(lo+m) - 1] [(1,.v 1,.v 3),(1,.a (.v 4) (.n 1),.a (.v 1) (.a (.v 1) (.v 2))),(1,.a (.v 0) (.v 3),.v 4)] 1 (.a (.v 0) (.n 1)) (.a (.v 1) (.v 2)) rfl hi (l_d (lin [lo,m,j] [(1,.a (.v 2) (.n 1),.a (.v 0) (.v 1))] 1 (.n 1) (.a (.v 0) (.a (.v 0) (.v 1))) rfl hj)) (l_d (lin [i,lo+(lo+m) - 1,j,lo,m] [(1,.v 0,.v 2),(1,.a (.v 2) (.n 1),.a (.v 3) (.v 4)),(1,.a (.v 3) (.a (.v 3) (.v 4)),.a (.v 1) (.n 1))] 1 (.v 0) (.v 1) rfl hij hj (l_g (lo+(lo+m)) (1)))))
theorem pI {st:SortSt} {lo nrem:Nat} {Q:Option Nat→SortSt→Prop} (hL:pA prog w A E s kd κ a₀) (hn:lo+nrem≤a₀.size) (h1:1≤nrem) (hB:SB kd a₀ st)
  (h: ∀ m st',SB kd a₀ st'→pendingOf st'=pendingOf st→iR (arrOf st) (arrOf st') lo→1≤m→m≤nrem→Seg κ (arrOf st') lo (lo+m)→Q (some m) st'):
  wpS (model prog w) A E s (countRun' lo nrem) Q st:=by
 have hone: ∀ xs:Array Keyed,Seg κ xs lo (lo+1):=fun xs i j hi hij hj=>by
  obtain rfl:i=j:=by exact l_a (hij) (li [j,i,lo] [([3],[2]),([1,0],[3,0])] [1] [2] rfl hi hj)
  exact Int.le_refl _
 rw [countRun'_eq]
 refine wpS_bind (gQ (g:=fun n=>(none,n)) (bad:=fun n=>(some none,n)) hL hn (Nat.le_refl 1) h1 hB (fun i x=>rfl) (hone _) fun n hn1 hn2 hsn hor=>?_)
 dsimp only
 by_cases hnn:n=nrem
 ·rw [if_pos (by simpa using hnn)]
  exact wpS_pure (h n st hB rfl (fun _ _=>rfl) hn1 hn2 hsn)
 ·rw [if_neg (by simpa using hnn)]
  have hlt:kAt κ (arrOf st) (lo+n) < kAt κ (arrOf st) (lo+n - 1):=hor.resolve_left hnn
  have hsz:lo+n≤(arrOf st).size:=by rw [hB.size]; exact li [lo,n,a₀.size,nrem] [([1,4],[3]),([2],[4])] [1,2] [3] rfl hn hn2
  by_cases hgt:n > 1
  ·rw [if_pos hgt]
   refine wpS_bind (gP hL hB (by exact li [lo,a₀.size,nrem] [([1,3],[2]),([0],[3])] [1,0] [2] rfl hn h1) (by exact li [lo+n - 1,a₀.size,lo,nrem,n] [([3,4],[2]),([5],[4]),([1,0],[3,5])] [1,0] [2] rfl hn hn2 (l_d (li [lo,n] [([0],[2])] [0] [1,2] rfl hn1))) ?_)
   by_cases hrose:kAt κ (arrOf st) lo < kAt κ (arrOf st) (lo+n - 1)
   ·simp only [hrose,decide_true,if_true]
    exact wpS_pure (h n st hB rfl (fun _ _=>rfl) hn1 hn2 hsn)
   ·simp only [hrose,decide_false,Bool.false_eq_true,if_false]
    have hall: ∀ k,lo≤k→k < lo+n→kAt κ (arrOf st) k=kAt κ (arrOf st) (lo+n - 1):=by
     intro k hk1 hk2
     have a1:=hsn lo k (by exact li [lo] [] [1] [1] rfl) hk1 hk2
     have a2:=hsn k (lo+n - 1) hk1 (by exact li [k,lo+n - 1,lo,n] [([1,0],[3,4]),([3,4],[2,0])] [1] [2] rfl hk2 (l_g (lo+n) (1))) (by exact (l_d (li [lo,n,k] [([3,0],[1,2])] [0] [1,2] rfl hk2)))
     exact Int.le_antisymm a2 (Int.le_trans (Int.not_lt.mp hrose) a1)
    have hdn:pB κ (arrOf st) lo (lo+n):=fun i j hi hij hj=>by rw [hall i hi (by exact li [i,lo,n,j] [([1],[4]),([4,0],[2,3])] [1,0] [2,3] rfl hij hj),hall j (by exact li [lo,j,i] [([1],[3]),([3],[2])] [1] [2] rfl hi hij) hj]; exact Int.le_refl _
    refine wpS_bind (wpS_reverse ?_)
    refine wpS_bind (wpS_lift (wpAny_rule ⟨rfl,?_⟩))
    refine wpS_bind (mW (g:=fun n q=>(none,n,q)) (bad:=fun n q=>(some none,n,q)) hL hn (by exact li [n] [] [0] [1,0] rfl) (by exact (Nat.lt_of_le_of_ne (hn2) hnn)) (hB.setArr (mirror_perm _ _ _ _)) (fun i x q=>rfl) ((hdn.more (by exact li [lo,n] [([0],[2])] [1,0] [1,2] rfl hn1) (Int.le_of_lt hlt)).same (bW hsz hall)) fun m q st' hB' hp ha hm1 hm2 hs' hq he=>?_)
    dsimp only
    have hsz':lo+m≤(arrOf st').size:=by rw [hB'.size]; exact li [lo,m,a₀.size,nrem] [([1,4],[3]),([2],[4])] [1,2] [3] rfl hn hm2
    have ha0:=(bi (xs:=arrOf st) (i:=lo) (j:=lo+n) hsz (Nat.le_refl lo)).trans ha
    by_cases hq0:q > 0
    ·rw [if_pos hq0]
     refine wpS_bind (wpS_reverse (wpS_bind (wpS_reverse ?_)))
     have hsz2:lo+m≤(mirror (arrOf st') (lo+m - (q+1)) (lo+m) ((lo+m - (lo+m - (q+1))) / 2)).size:=by rw [mirror_size]; exact hsz'
     refine wpS_bind (gQ (g:=fun n=>(none,n)) (bad:=fun n=>(some none,n)) hL hn (by exact li [m,q] [([2,0],[1])] [0] [1] rfl hq) hm2 ((hB'.setArr (mirror_perm _ _ _ _)).setArr (mirror_perm _ _ _ _)) (fun i x=>rfl) ((hs'.same (bW hsz' he)).turn hsz2) fun m' hm1' hm2' hsm _=>
      wpS_pure (h m' _ ((hB'.setArr (mirror_perm _ _ _ _)).setArr (mirror_perm _ _ _ _)) hp ((ha0.trans (bi hsz' (by exact li [lo,lo+m - (q+1),q,m] [([3,0],[4]),([1,4],[2,3,0])] [1] [2] rfl hq (l_g (lo+m) (q+1))))).trans (bi hsz2 (Nat.le_refl lo))) (by exact li [m',q,m] [([2,0],[3]),([3],[1])] [0] [1] rfl hq hm1') hm2' hsm))
    ·rw [if_neg hq0]
     refine wpS_bind (wpS_reverse ?_)
     exact wpS_bind (gQ (g:=fun n=>(none,n)) (bad:=fun n=>(some none,n)) hL hn (by exact li [m,q] [([2,0],[1])] [0] [1] rfl hq) hm2 (hB'.setArr (mirror_perm _ _ _ _)) (fun i x=>rfl) (hs'.turn hsz') fun m' hm1' hm2' hsm _=>
      wpS_pure (h m' _ (hB'.setArr (mirror_perm _ _ _ _)) hp (ha0.trans (bi hsz' (Nat.le_refl lo))) (by exact li [m',q,m] [([2,0],[3]),([3],[1])] [0] [1] rfl hq hm1') hm2' hsm))
  ·rw [if_neg hgt]
   obtain rfl:n=1:=by exact l_a ((l_t hgt)) (hn1)
   have hdn:pB κ (arrOf st) lo (lo+1):=fun i j hi hij hj=>by
    obtain rfl:i=j:=by exact l_a (hij) (li [j,i,lo] [([3],[2]),([1,0],[3,0])] [1] [2] rfl hi hj)
    exact Int.le_refl _
   refine wpS_bind (wpS_lift (wpAny_rule ⟨rfl,?_⟩))
   refine wpS_bind (mW (g:=fun n q=>(none,n,q)) (bad:=fun n q=>(some none,n,q)) hL hn (by exact li [] [] [0] [0,0] rfl) (by exact (Nat.lt_of_le_of_ne (h1) hnn)) hB (fun i x q=>rfl) (hdn.more (by exact li [lo] [] [1,0] [1,0] rfl) (Int.le_of_lt hlt)) fun m q st' hB' hp ha hm1 hm2 hs' hq he=>?_)
   dsimp only
   have hsz':lo+m≤(arrOf st').size:=by rw [hB'.size]; exact li [lo,m,a₀.size,nrem] [([1,4],[3]),([2],[4])] [1,2] [3] rfl hn hm2
   by_cases hq0:q > 0
   ·rw [if_pos hq0]
    refine wpS_bind (wpS_reverse (wpS_bind (wpS_reverse ?_)))
    have hsz2:lo+m≤(mirror (arrOf st') (lo+m - (q+1)) (lo+m) ((lo+m - (lo+m - (q+1))) / 2)).size:=by rw [mirror_size]; exact hsz'
    refine wpS_bind (gQ (g:=fun n=>(none,n)) (bad:=fun n=>(some none,n)) hL hn (by exact li [m] [([0,0],[1])] [0] [1] rfl hm1) hm2 ((hB'.setArr (mirror_perm _ _ _ _)).setArr (mirror_perm _ _ _ _)) (fun i x=>rfl) ((hs'.same (bW hsz' he)).turn hsz2) fun m' hm1' hm2' hsm _=>
     wpS_pure (h m' _ ((hB'.setArr (mirror_perm _ _ _ _)).setArr (mirror_perm _ _ _ _)) hp ((ha.trans (bi hsz' (by exact li [lo,lo+m - (q+1),q,m] [([3,0],[4]),([1,4],[2,3,0])] [1] [2] rfl hq (l_g (lo+m) (q+1))))).trans (bi hsz2 (Nat.le_refl lo))) (by exact li [m',m] [([0,0],[2]),([2],[1])] [0] [1] rfl hm1 hm1') hm2' hsm))
   ·rw [if_neg hq0]
    refine wpS_bind (wpS_reverse ?_)
    exact wpS_bind (gQ (g:=fun n=>(none,n)) (bad:=fun n=>(some none,n)) hL hn (by exact li [m] [([0,0],[1])] [0] [1] rfl hm1) hm2 (hB'.setArr (mirror_perm _ _ _ _)) (fun i x=>rfl) (hs'.turn hsz') fun m' hm1' hm2' hsm _=>
     wpS_pure (h m' _ (hB'.setArr (mirror_perm _ _ _ _)) hp (ha.trans (bi hsz' (Nat.le_refl lo))) (by exact li [m',m] [([0,0],[2]),([2],[1])] [0] [1] rfl hm1 hm1') hm2' hsm))
end
end
noncomputable section
open PySem PyProof.Rows
noncomputable def qP:Bool→Keyed→Array Keyed→Nat→Nat→Nat→StateT SortSt Sem (Option Nat):=sortPriv% PySem.Builtin.gallop
section
variable {prog:Program} {w:World} {A:Around} {E:Value→Shared→Prop} {s:Shared} {kd:SortKind} {κ:Keyed→Int} {a₀:Array Keyed}
theorem kE {st:SortSt} {n maxofs:Nat} {β:Type} {g bad:Nat→Nat→β} {b:Nat→StateT SortSt Sem (Option Bool)} {neg:Bool→Bool} {v:Nat→Bool} {f:Nat→β→StateT SortSt Sem (ForInStep β)} {Q:β→SortSt→Prop} (hm:maxofs≤n) (hm1:1≤maxofs)
  (hb: ∀ o,o < maxofs→∀ R:Option Bool→SortSt→Prop,(∀ y,neg y= !(v o)→R (some y) st)→wpS (model prog w) A E s (b o) R st)
  (hf: ∀ i l o,f i (g l o)=if o ≥ maxofs then pure (ForInStep.done (g l o)) else do
   let __x ← b o
   match __x with
   | some y=>if neg y=true then pure (ForInStep.done (g l o)) else pure (ForInStep.yield (g o (2*o+1)))
   | _=>pure (ForInStep.done (bad l o)))
  (h: ∀ l o,l < o→l < maxofs→(l=0∨v l=true)→(maxofs≤o∨v o=false)→Q (g l o) st):wpS (model prog w) A E s (forIn [0:n] (g 0 1) f) Q st:=by
 refine wpS_forRange (I:=fun x c st'=>st'=st∧∃ l o,c=g l o∧l < o∧l < maxofs∧(l=0∨v l=true)∧x+1≤o) ?step ?fin ⟨rfl,0,1,rfl,by exact lin [] [] 1 (.a (.n 0) (.n 1)) (.n 1) rfl,by exact lin [_] [(1,.n 1,.v 0)] 1 (.a (.n 0) (.n 1)) (.v 0) rfl hm1,.inl rfl,by exact lin [] [] 1 (.a (.n 0) (.n 1)) (.n 1) rfl⟩
 case fin=>
  rintro c st' ⟨rfl,l,o,rfl,h1,h2,h3,h4⟩
  exact h l o h1 h2 h3 (.inl (by exact li [_,o,n,_] [([1],[3]),([4,0],[2]),([3],[4])] [1] [2] rfl hm h4 (Nat.le_max_right _ _)))
 case step=>
  rintro x c st' _ hx ⟨rfl,l,o,rfl,h1,h2,h3,h4⟩
  rw [hf]
  by_cases ho:o ≥ maxofs
  ·rw [if_pos ho]; exact wpS_pure (h l o h1 h2 h3 (.inl ho))
  ·rw [if_neg ho]
   refine wpS_bind (hb o (by exact (l_n ho)) _ fun y hy=>?_)
   cases hv:v o with
   | true=>
    have: ¬ neg y=true:=by rw [hy,hv]; decide
    simp only [this,if_false]
    exact wpS_pure ⟨rfl,o,2*o+1,rfl,by exact lin [o] [] 1 (.a (.v 0) (.n 1)) (.a (.m 2 (.v 0)) (.n 1)) rfl,by exact (l_n ho),.inr hv,by exact lin [x,o] [(1,.a (.v 0) (.n 1),.v 1)] 1 (.a (.a (.v 0) (.n 1)) (.n 1)) (.a (.m 2 (.v 1)) (.n 1)) rfl h4⟩
   | false=>
    have:neg y=true:=by rw [hy,hv]; rfl
    simp only [this,if_true]
    exact wpS_pure (h l o h1 h2 h3 (.inr hv))
theorem cC {l o:Nat} (h: ¬ l ≥ o):l≤l+(o - l) / 2∧l+(o - l) / 2+1≤o:=
 ⟨Nat.le_add_right _ _,Nat.lt_of_lt_of_eq (Nat.add_lt_add_left (Nat.div_lt_self (Nat.sub_pos_of_lt (Nat.lt_of_not_le h)) (by decide)) l) (Nat.add_sub_cancel' (Nat.le_of_not_le h))⟩
theorem pH {st:SortSt} {n lo₀ hi₀:Nat} {β:Type} {g bad:Nat→Nat→β} {b:Nat→StateT SortSt Sem (Option Bool)} {v:Nat→Bool} {f:Nat→β→StateT SortSt Sem (ForInStep β)} {Q:β→SortSt→Prop} (hlh:lo₀≤hi₀) (hhn:hi₀≤n)
  (hmono: ∀ i j,i≤j→j < n→v j=true→v i=true) (hlo: ∀ i,i < lo₀→v i=true) (hhi: ∀ i,hi₀≤i→i < n→v i=false)
  (hb: ∀ o,o < n→∀ R:Option Bool→SortSt→Prop,R (some (v o)) st→wpS (model prog w) A E s (b o) R st)
  (hf: ∀ i l o,f i (g l o)=if l ≥ o then pure (ForInStep.done (g l o)) else do
   let __x ← b (l+(o - l) / 2)
   match __x with
   | some y=>if y=true then pure (ForInStep.yield (g (l+(o - l) / 2+1) o)) else pure (ForInStep.yield (g l (l+(o - l) / 2)))
   | _=>pure (ForInStep.done (bad l o)))
  (h: ∀ l k,k≤n→(∀ i,i < k→v i=true)→(∀ i,k≤i→i < n→v i=false)→Q (g l k) st):wpS (model prog w) A E s (forIn [0:n] (g lo₀ hi₀) f) Q st:=by
 refine wpS_forRange (I:=fun x c st'=>st'=st∧∃ l o,c=g l o∧l≤o∧o≤n∧o - l≤n - x∧(∀ i,i < l→v i=true)∧(∀ i,o≤i→i < n→v i=false)) ?step ?fin ⟨rfl,lo₀,hi₀,rfl,hlh,hhn,by exact lin [_,_,_,n,_] [(1,.v 2,.v 3),(1,.a (.v 0) (.v 4),.v 2),(1,.v 3,.a (.v 1) (.n 0))] 1 (.v 0) (.v 1) rfl hhn (l_d (hlh)) (l_g _ _),hlo,hhi⟩
 case fin=>
  rintro c st' ⟨rfl,l,o,rfl,h1,h2,h3,h4,h5⟩
  obtain rfl:l=o:=by exact l_a (h1) (li [o,l,_,_,n,_] [([3],[4]),([1],[3,2]),([5],[6]),([4,6],[5])] [1] [2] rfl h3 (l_g _ _) (Nat.le_max_right _ _) (l_d ((l_y (li [n] [] [] [1] rfl )))))
  exact h l l h2 h4 h5
 case step=>
  rintro x c st' _ hx ⟨rfl,l,o,rfl,h1,h2,h3,h4,h5⟩
  rw [hf]
  by_cases ho:l ≥ o
  ·obtain rfl:l=o:=by exact l_a (h1) (ho)
   rw [if_pos ho]; exact wpS_pure (h l l h2 h4 h5)
  ·rw [if_neg ho]
   refine wpS_bind (hb _ (Nat.lt_of_lt_of_le (cC ho).2 h2) _ ?_)
   cases hv:v (l+(o - l) / 2) with
   | true=>
    simp only [if_true]
    exact wpS_pure ⟨rfl,_,o,rfl,(cC ho).2,h2,tG (cC ho).1 h3,fun i hi=>hmono i _ (Nat.le_of_lt_succ hi) (Nat.lt_of_lt_of_le (cC ho).2 h2) hv,h5⟩
   | false=>
    simp only [Bool.false_eq_true,if_false]
    refine wpS_pure ⟨rfl,l,_,rfl,(cC ho).1,Nat.le_trans (Nat.le_of_succ_le (cC ho).2) h2,tF (cC ho).1 (cC ho).2 h3,h4,fun i hi hn=>?_⟩
    cases hv':v i with
    | false=>rfl
    | true=>rw [hmono _ i hi hn hv'] at hv; cases hv
noncomputable def bx (κ:Keyed→Int) (left:Bool) (key:Keyed) (arr:Array Keyed) (base i:Nat):Bool:=if left then decide (kAt κ arr (base+i) < κ key) else decide (kAt κ arr (base+i)≤κ key)
theorem ck {st:SortSt} {left:Bool} {key:Keyed} {arr:Array Keyed} {base n hint:Nat} {Q:Option Nat→SortSt→Prop} (hL:pA prog w A E s kd κ a₀) (hk:kindOf st=kd) (hkey:key∈a₀.toList)
  (harr: ∀ i,i < n→∃ p,arr[base+i]?= some p∧p∈a₀.toList) (hs:Seg κ arr base (base+n)) (hh:hint < n)
  (h: ∀ k,k≤n→(∀ i,i < k→bx κ left key arr base i=true)→(∀ i,k≤i→i < n→bx κ left key arr base i=false)→Q (some k) st):
  wpS (model prog w) A E s (qP left key arr base n hint) Q st:=by
 have hmono: ∀ i j,i≤j→j < n→bx κ left key arr base j=true→bx κ left key arr base i=true:=fun i j hij hj hv=>by
  have:=hs (base+i) (base+j) (by exact li [_,i] [] [1] [1,2] rfl) (by exact li [_,i,j] [([2],[3])] [1,2] [1,3] rfl hij) (by exact li [_,j,n] [([2,0],[3])] [1,2,0] [1,3] rfl hj)
  unfold bx at hv ⊢
  cases left
  ·simp only [Bool.false_eq_true,if_false,decide_eq_true_eq] at hv ⊢; exact (Int.le_trans this hv)
  ·simp only [if_true,decide_eq_true_eq] at hv ⊢; exact (Int.lt_of_le_of_lt this hv)
 have hb: ∀ o,o < n→∀ R:Option Bool→SortSt→Prop,R (some (bx κ left key arr base o)) st→wpS (model prog w) A E s (do
   let x ← elem' arr (base+o)
   if left=true then lt' x key else do
    let y ← lt' key x
    pure (Option.map (fun x=>!x) y)) R st:=fun o ho R hR=>by
  obtain ⟨p,e,hp⟩:=harr o ho
  refine wpS_bind (gu e ?_)
  have hkp:kAt κ arr (base+o)=κ p:=by rw [kAt,e]; rfl
  unfold bx at hR
  rw [hkp] at hR
  cases left
  ·simp only [Bool.false_eq_true,if_false] at hR ⊢
   refine wpS_bind (hL key p hkey hp st _ hk (wpS_pure ?_))
   have:(!decide (κ key < κ p))=decide (κ p≤κ key):=by rw [Bool.eq_iff_iff]; simp
   rw [Option.map_some,this]; exact hR
  ·simp only [if_true] at hR ⊢
   exact hL p key hp hkey st R hk hR
 unfold qP
 refine wpS_bind (hb hint hh _ ?_)
 have fin: ∀ lo hi,lo≤hi→hi≤n→(∀ i,i < lo→bx κ left key arr base i=true)→(∀ i,hi≤i→i < n→bx κ left key arr base i=false)→∀ (f:Nat→Option (Option Nat)×Nat×Nat→StateT SortSt Sem (ForInStep (Option (Option Nat)×Nat×Nat))) (k:Option (Option Nat)×Nat×Nat→StateT SortSt Sem (Option Nat)),
   (∀ i l o,f i (none,l,o)=if l ≥ o then pure (ForInStep.done (none,l,o)) else do
    let __x ← (do
     let x ← elem' arr (base+(l+(o - l) / 2))
     if left=true then lt' x key else do
      let y ← lt' key x
      pure (Option.map (fun x=>!x) y))
    match __x with
    | some y=>if y=true then pure (ForInStep.yield (none,l+(o - l) / 2+1,o)) else pure (ForInStep.yield (none,l,l+(o - l) / 2))
    | _=>pure (ForInStep.done (some none,l,o)))→(∀ l o,k (none,l,o)=pure (some o))→
   wpS (model prog w) A E s (forIn [0:n] (none,lo,hi) f >>= k) Q st:=fun lo hi h1 h2 h3 h4 f k hf hk'=>
  wpS_bind (pH (g:=fun l o=>(none,l,o)) (bad:=fun l o=>(some none,l,o)) (v:=bx κ left key arr base) h1 h2 hmono h3 h4 hb hf fun l o h5 h6 h7=>by rw [hk']; exact wpS_pure (h o h5 h6 h7))
 cases hv:bx κ left key arr base hint with
 | true=>
  simp only [if_true]
  refine wpS_bind (kE (g:=fun l o=>(none,l,o)) (bad:=fun l o=>(some none,l,o)) (neg:=fun y=>!y) (v:=fun o=>bx κ left key arr base (hint+o)) (maxofs:=n - hint) (by exact li [_,n,_] [([1,3],[2])] [1] [2] rfl (l_d (li [_,n] [([1,0],[2])] [1] [2] rfl hh))) (by exact li [_,_,n] [([2,0],[3]),([3],[1,2])] [0] [1] rfl hh (l_g _ _)) (fun o ho R hR=>hb (hint+o) (by exact li [_,o,n,_] [([2,0],[4]),([4,1],[3])] [1,2,0] [3] rfl ho (l_d (li [_,n] [([1,0],[2])] [1] [2] rfl hh))) R (hR _ rfl)) (fun i l o=>rfl) fun l o h1 h2 h3 h4=>?_)
  refine fin (hint+l+1) (hint+min o (n - hint)) (by exact (Nat.le_total (o) (n - hint)).elim (fun q=>li [_,l,_,o] [([2,0],[4]),([4],[3])] [1,2,0] [1,3] rfl h1 (l_m (q))) (fun q=>li [_,l,_,_] [([2,0],[4]),([4],[3])] [1,2,0] [1,3] rfl h2 (l_r (q)))) (by exact li [_,_,n,_] [([4,1],[3]),([2],[4])] [1,2] [3] rfl (l_d (li [_,n] [([1,0],[2])] [1] [2] rfl hh)) (Nat.min_le_right _ _)) (fun i hi=>?_) (fun i hi hn=>?_) _ _ (fun _ _ _=>rfl) (fun _ _=>rfl)
  ·rcases h3 with rfl | h3
   ·exact hmono i hint (by exact lin [i,_] [(1,.a (.v 0) (.n 1),.a (.a (.v 1) (.n 0)) (.n 1))] 1 (.v 0) (.v 1) rfl hi) (by exact hh) hv
   ·exact hmono i (hint+l) (by exact li [i,_,l] [([1,0],[2,3,0])] [1] [2,3] rfl hi) (by exact li [_,l,n,_] [([2,0],[4]),([4,1],[3])] [1,2,0] [3] rfl h2 (l_d (li [_,n] [([1,0],[2])] [1] [2] rfl hh))) h3
  ·cases hq:bx κ left key arr base i with
   | false=>rfl
   | true=>
    rcases h4 with h4 | h4
    ·exact (l_z (lin [_,_,i,n,_] [(1,.a (.v 0) (.v 1),.v 2),(1,.a (.v 2) (.n 1),.v 3),(1,.v 3,.a (.v 4) (.v 0)),(1,.v 4,.v 1)] 0 (.n 1) (.n 0) rfl hi hn (l_g _ _) (l_r (h4)))).elim
    ·rw [hmono (hint+o) i (by exact (Nat.le_total (o) (n - hint)).elim (fun q=>li [_,o,i,_] [([1,4],[3]),([2],[4])] [1,2] [3] rfl hi (l_m (q))) (fun q=>lin [_,o,i,_,n,_] [(1,.a (.v 0) (.v 3),.v 2),(1,.a (.v 2) (.n 1),.v 4),(1,.v 4,.a (.v 5) (.v 0)),(1,.v 5,.v 3)] 0 (.a (.v 0) (.v 1)) (.v 2) rfl hi hn (l_g _ _) (l_r (q)))) hn hq] at h4; cases h4
 | false=>
  simp only [Bool.false_eq_true,if_false]
  refine wpS_bind (kE (g:=fun l o=>(none,l,o)) (bad:=fun l o=>(some none,l,o)) (neg:=fun y=>y) (v:=fun o=>!bx κ left key arr base (hint - o)) (maxofs:=hint+1) (by exact hh) (by exact li [_] [] [0] [1,0] rfl) (fun o ho R hR=>hb (hint - o) (by exact li [_,n,_,o] [([3,0],[2]),([1,4],[3])] [1,0] [2] rfl hh (l_d (li [o,_] [([1,0],[2,0])] [1] [2] rfl ho))) R (hR _ (by rw [Bool.not_not]))) (fun i l o=>rfl) fun l o h1 h2 h3 h4=>?_)
  refine fin (hint+1 - min o (hint+1)) (hint - l) (by exact (Nat.le_total (o) (hint+1)).elim (fun q=>li [_,_,l,o,_,_] [([3,0],[4]),([5],[2,3]),([4],[6]),([1,6],[5,0])] [1] [2] rfl h1 (l_g _ _) (l_m (q)) (l_d (li [_,_,o] [([3],[2,0]),([1],[3])] [1] [2,0] rfl q (Nat.min_le_left _ _)))) (fun q=>li [_,_,_,_] [([3,0],[4]),([1,4],[3,0])] [1] [2] rfl (l_r (q)) (l_d ((Nat.min_le_right _ _))))) (by exact li [_,n,_,l] [([3,0],[2]),([1,4],[3])] [1] [2] rfl hh (l_d (li [l,_] [([1,0],[2,0])] [1] [2] rfl h2))) (fun i hi=>?_) (fun i hi hn=>?_) _ _ (fun _ _ _=>rfl) (fun _ _=>rfl)
  ·rcases h4 with h4 | h4
   ·exact (l_z (lin [i,_,_,_] [(1,.a (.v 0) (.n 1),.v 1),(1,.a (.v 1) (.v 2),.a (.v 3) (.n 1)),(1,.a (.v 3) (.n 1),.v 2)] 0 (.n 1) (.n 0) rfl hi (l_p (li [_,i] [([2,0],[1])] [0] [1] rfl hi)) (l_r (h4)))).elim
   ·rw [Bool.not_eq_false'] at h4
    exact hmono i (hint - o) (by exact (Nat.le_total (o) (hint+1)).elim (fun q=>li [i,_,_,_,_,o] [([1,0],[3]),([3,4],[5,0]),([6],[4]),([5],[2,6])] [1] [2] rfl hi (l_p (li [_,i] [([2,0],[1])] [0] [1] rfl hi)) (l_m (q)) (l_g _ _)) (fun q=>lin [i,_,_,_,_] [(1,.a (.v 0) (.n 1),.v 2),(1,.a (.v 2) (.v 3),.a (.v 4) (.n 1)),(1,.a (.v 4) (.n 1),.v 3)] 0 (.v 0) (.v 1) rfl hi (l_p (li [_,i] [([2,0],[1])] [0] [1] rfl hi)) (l_r (q)))) (by exact li [_,n,_] [([3,0],[2]),([1],[3])] [1,0] [2] rfl hh (Nat.sub_le _ _)) h4
  ·cases hq:bx κ left key arr base i with
   | false=>rfl
   | true=>
    rcases h3 with rfl | h3
    ·rw [hmono hint i (by exact lin [_,i,_] [(1,.v 2,.v 1),(1,.v 0,.a (.v 2) (.n 0))] 1 (.v 0) (.v 1) rfl hi (l_g _ _)) hn hq] at hv; cases hv
    ·rw [hmono (hint - l) i hi hn hq] at h3; cases h3
end
end
noncomputable section
open PySem PyProof.Rows
noncomputable def Srt (κ:Keyed→Int) (l:List Keyed):Prop:=l.Pairwise fun x y=>κ x≤κ y
section
variable {κ:Keyed→Int}
theorem bk {xs:Array Keyed} {i:Nat} {p:Keyed} (e:xs[i]?= some p):kAt κ xs i=κ p:=by rw [kAt,e]; rfl
theorem gK {xs:Array Keyed} {i:Nat} {y:Keyed} (h:y∈xs.toList.drop i): ∃ j,i≤j∧j < xs.size∧xs[j]?= some y:=by
 rw [List.mem_iff_getElem?] at h
 obtain ⟨n,hn⟩:=h
 rw [List.getElem?_drop,Array.getElem?_toList] at hn
 exact ⟨i+n,by exact li [i,n] [] [1] [1,2] rfl,(Array.getElem?_eq_some_iff.mp hn).1,hn⟩
theorem Seg.le_drop {xs:Array Keyed} {lo i:Nat} (h:Seg κ xs lo xs.size) (hi:lo≤i) {y:Keyed} (hy:y∈xs.toList.drop i):kAt κ xs i≤κ y:=by
 obtain ⟨j,h1,h2,h3⟩:=gK hy
 rw [← bk (κ:=κ) h3]
 exact h i j hi h1 h2
theorem rj {xs:Array Keyed} {i:Nat} {p:Keyed} (e:xs[i]?= some p):xs.toList.drop i=p::xs.toList.drop (i+1):=by
 have hi:=(Array.getElem?_eq_some_iff.mp e).1
 rw [List.drop_eq_getElem_cons (by simpa using hi)]
 congr 1
 rw [Array.getElem_toList]
 exact (Array.getElem?_eq_some_iff.mp e).2
theorem oC {xs:Array Keyed} {i:Nat} {p:Keyed} (e:xs[i]?= some p):xs.toList.take (i+1)=xs.toList.take i++[p]:=by
 rw [List.take_add_one,Array.getElem?_toList,e]; rfl
structure G (κ:Keyed→Int) (a b out:Array Keyed) (ia ib:Nat):Prop where
 perm:out.toList.Perm (a.toList.take ia++b.toList.take ib)
 srt:Srt κ out.toList
 leA: ∀ x∈out.toList,∀ y∈a.toList.drop ia,κ x≤κ y
 leB: ∀ x∈out.toList,∀ y∈b.toList.drop ib,κ x≤κ y
theorem G.swap {a b out:Array Keyed} {ia ib:Nat} (g:G κ a b out ia ib):G κ b a out ib ia:=⟨g.perm.trans List.perm_append_comm,g.srt,g.leB,g.leA⟩
theorem G.pushA {a b out:Array Keyed} {ia ib:Nat} {p:Keyed} (g:G κ a b out ia ib) (e:a[ia]?= some p) (hs:Seg κ a 0 a.size) (hp: ∀ y∈b.toList.drop ib,κ p≤κ y):G κ a b (out.push p) (ia+1) ib:=by
 have hd:=rj e
 refine ⟨?_,?_,fun x hx y hy=>?_,fun x hx y hy=>?_⟩
 ·rw [Array.toList_push,oC e]
  refine (g.perm.append_right [p]).trans ?_
  rw [List.append_assoc,List.append_assoc]
  exact List.Perm.append_left _ List.perm_append_comm
 ·rw [Array.toList_push]
  refine List.pairwise_append.mpr ⟨g.srt,List.pairwise_singleton _ _,fun x hx y hy=>?_⟩
  rw [List.mem_singleton.mp hy]
  exact g.leA x hx p (by rw [hd]; exact List.mem_cons_self)
 ·rw [Array.toList_push,List.mem_append,List.mem_singleton] at hx
  rcases hx with hx | rfl
  ·exact g.leA x hx y (by rw [hd]; exact List.mem_cons_of_mem _ hy)
  ·rw [← bk (κ:=κ) e]; exact hs.le_drop (Nat.zero_le _) (by rw [hd]; exact List.mem_cons_of_mem _ hy)
 ·rw [Array.toList_push,List.mem_append,List.mem_singleton] at hx
  rcases hx with hx | rfl
  ·exact g.leB x hx y hy
  ·exact hp y hy
theorem lj {a:Array Keyed} {i k:Nat} {p:Keyed} (e:a[i+k]?= some p):a.extract i (i+(k+1))=(a.extract i (i+k)).push p:=by
 obtain ⟨hi,he⟩:=Array.getElem?_eq_some_iff.mp e
 rw [← he,Array.push_extract_getElem,Nat.min_eq_left (by exact li [i,k] [] [1] [1,2] rfl)]; rfl
theorem G.bulkA {a b out:Array Keyed} {ia ib:Nat} (g:G κ a b out ia ib) (hs:Seg κ a 0 a.size): ∀ k,ia+k≤a.size→(∀ i,i < k→∀ y∈b.toList.drop ib,kAt κ a (ia+i)≤κ y)→G κ a b (out++a.extract ia (ia+k)) (ia+k) ib
 | 0,_,_=>by
  have:a.extract ia (ia+0)= #[]:=by apply Array.toList_inj.mp; simp
  rw [this]; simpa using g
 | k+1,hk,h=>by
  have ih:=G.bulkA g hs k (by exact li [ia,k,_] [([1,2,0],[3])] [1,2] [3] rfl hk) fun i hi=>h i (by exact li [i,k] [([1,0],[2])] [1,0] [2,0] rfl hi)
  have e:a[ia+k]?= some a[ia+k]:=Array.getElem?_eq_getElem (by exact li [ia,k,_] [([1,2,0],[3])] [1,2,0] [3] rfl hk)
  rw [lj e,← Array.push_append]
  exact ih.pushA e hs fun y hy=>by rw [← bk (κ:=κ) e]; exact h k (by exact li [k] [] [1,0] [1,0] rfl) y hy
noncomputable def gr (κ:Keyed→Int) (a b r:Array Keyed):Prop:=r.toList.Perm (a.toList++b.toList)∧Srt κ r.toList
theorem Seg.srt_drop {xs:Array Keyed} (h:Seg κ xs 0 xs.size) (i:Nat):Srt κ (xs.toList.drop i):=by
 refine List.Pairwise.drop ?_
 rw [List.pairwise_iff_getElem]
 intro i j hi hj hij
 have:=h i j (Nat.zero_le _) (by exact li [i,j] [([1,0],[2])] [1] [2] rfl hij) (by simpa using hj)
 simpa [kAt,Array.getElem?_eq_getElem (show i < xs.size by simpa using hi),Array.getElem?_eq_getElem (show j < xs.size by simpa using hj)] using this
theorem fP (xs:Array Keyed) (i:Nat):(xs.extract i xs.size).toList=xs.toList.drop i:=by
 rw [Array.toList_extract,List.extract_eq_take_drop,List.take_of_length_le (by simp)]
theorem G.fin {a b out:Array Keyed} {ia ib:Nat} (g:G κ a b out ia ib) (ha:Seg κ a 0 a.size) (hb:Seg κ b 0 b.size) (h: ∀ x∈a.toList.drop ia,∀ y∈b.toList.drop ib,κ x≤κ y):gr κ a b (out++a.extract ia a.size++b.extract ib b.size):=by
 rw [gr,Array.toList_append,Array.toList_append,fP,fP]
 constructor
 ·have h1:=(g.perm.append_right (a.toList.drop ia)).append_right (b.toList.drop ib)
  refine h1.trans ?_
  have h2:((a.toList.take ia++b.toList.take ib)++a.toList.drop ia).Perm (a.toList++b.toList.take ib):=by
   have:(a.toList.take ia++b.toList.take ib++a.toList.drop ia).Perm (a.toList.take ia++(a.toList.drop ia++b.toList.take ib)):=by
    rw [List.append_assoc]; exact List.Perm.append_left _ List.perm_append_comm
   rwa [← List.append_assoc,List.take_append_drop] at this
  refine (h2.append_right _).trans ?_
  rw [List.append_assoc,List.take_append_drop]
 ·refine List.pairwise_append.mpr ⟨List.pairwise_append.mpr ⟨g.srt,ha.srt_drop ia,g.leA⟩,hb.srt_drop ib,fun x hx y hy=>?_⟩
  rcases List.mem_append.mp hx with hx | hx
  ·exact g.leB x hx y hy
  ·exact h x hx y hy
theorem gr.swap {a b r:Array Keyed} (h:gr κ a b r):gr κ b a r:=⟨h.1.trans List.perm_append_comm,h.2⟩
end
end
noncomputable section
open PySem PyProof.Rows
noncomputable def nB:Array Keyed→Array Keyed→StateT SortSt Sem (Array Keyed):=sortPriv% PySem.Builtin.mergeLo
structure be (st st':SortSt):Prop where
 kind:kindOf st'=kindOf st
 arr:arrOf st'=arrOf st
 pend:pendingOf st'=pendingOf st
 failed:failedOf st'=failedOf st
theorem be.rfl' (st:SortSt):be st st:=⟨rfl,rfl,rfl,rfl⟩
theorem be.trans {a b c:SortSt} (x:be a b) (y:be b c):be a c:=⟨y.kind.trans x.kind,y.arr.trans x.arr,y.pend.trans x.pend,y.failed.trans x.failed⟩
section
variable {prog:Program} {w:World} {A:Around} {E:Value→Shared→Prop} {s:Shared} {kd:SortKind} {κ:Keyed→Int} {a₀:Array Keyed}
theorem tW {xs:Array Keyed} {i:Nat} (h:i < xs.size): ∃ p,xs[i]?= some p∧p∈xs.toList:=⟨xs[i],Array.getElem?_eq_getElem h,by simp⟩
theorem aB {α:Type} {c:Prop} [Decidable c] {x y:StateT SortSt Sem α} {Q:α→SortSt→Prop} {st:SortSt} (h1:c→wpS (model prog w) A E s x Q st) (h2: ¬ c→wpS (model prog w) A E s y Q st):wpS (model prog w) A E s (if c then x else y) Q st:=by
 by_cases h:c
 ·rw [if_pos h]; exact h1 h
 ·rw [if_neg h]; exact h2 h
theorem eG {f:SortSt→SortSt} {Q:PUnit→SortSt→Prop} {st:SortSt} (hf:be st (f st)) (h: ∀ st',be st st'→Q ⟨⟩ st'):wpS (model prog w) A E s (modify f:StateT SortSt Sem PUnit) Q st:=wpS_modify (h _ hf)
theorem bH {xs:Array Keyed} {i:Nat} {st:SortSt} {Q:Keyed→SortSt→Prop} (hi:i < xs.size) (h: ∀ p,xs[i]?= some p→p∈xs.toList→Q p st):wpS (model prog w) A E s (elem' xs i) Q st:=
 gu (Array.getElem?_eq_getElem hi) (h _ (Array.getElem?_eq_getElem hi) (by simp))
theorem dS {ρ X:Type} {n:Nat} {h:Array Keyed→Nat→Nat→ρ→X} {f:Nat→Option (Array Keyed)×X→StateT SortSt Sem (ForInStep (Option (Array Keyed)×X))} {st:SortSt} {Q:Option (Array Keyed)×X→SortSt→Prop}
  (I:Nat→Array Keyed→Nat→Nat→SortSt→Prop) (K:Array Keyed→Nat→Nat→SortSt→Prop) (D:Array Keyed→SortSt→Prop) {out:Array Keyed} {ia ib:Nat} {r:ρ} (h0:I 0 out ia ib st)
  (hstep: ∀ i out ia ib r st (R:ForInStep (Option (Array Keyed)×X)→SortSt→Prop),i < n→I i out ia ib st→(∀ v x st,D v st→R (.done (some v,x)) st)→
   (∀ out ia ib r st,K out ia ib st→R (.done (none,h out ia ib r)) st)→(∀ out ia ib r st,I (i+1) out ia ib st→R (.yield (none,h out ia ib r)) st)→wpS (model prog w) A E s (f i (none,h out ia ib r)) R st)
  (hend: ∀ out ia ib st,I n out ia ib st→K out ia ib st) (hd: ∀ v x st,D v st→Q (some v,x) st) (hk: ∀ out ia ib r st,K out ia ib st→Q (none,h out ia ib r) st):
  wpS (model prog w) A E s (forIn [0:n] (none,h out ia ib r) f) Q st:=by
 refine wpS_forRange (fun i c st=>∃ out ia ib r,c=(none,h out ia ib r)∧I i out ia ib st) ?_ ?_ ⟨out,ia,ib,r,rfl,h0⟩
 ·rintro i c st _ hi ⟨out,ia,ib,r,rfl,hI⟩
  exact hstep i out ia ib r st _ hi hI hd hk fun out ia ib r st q=>⟨out,ia,ib,r,rfl,q⟩
 ·rintro c st ⟨out,ia,ib,r,rfl,hI⟩
  exact hk out ia ib r st (hend _ _ _ _ (by rwa [Nat.zero_max] at hI))
theorem FI {a b out:Array Keyed} {ia ib k:Nat} {pb:Keyed} (sa:Seg κ a 0 a.size) (sb:Seg κ b 0 b.size) (g:G κ a b out ia ib) (eb:b[ib]?= some pb) (hk1:k≤a.size - ia) (hk2: ∀ i,i < k→bx κ false pb a ia i=true) (hk3: ∀ i,k≤i→i < a.size - ia→bx κ false pb a ia i=false):
  G κ a b (out++a.extract ia (ia+k)) (ia+k) ib∧∀ y∈a.toList.drop (ia+k),κ pb≤κ y:=by
 refine ⟨?_,fun y hy=>?_⟩
 ·by_cases hia:ia≤a.size
  ·refine g.bulkA sa k (by exact li [ia,k,_,_] [([2],[4]),([4,1],[3])] [1,2] [3] rfl hk1 (l_d (hia))) fun i hi y hy=>?_
   have q:=hk2 i hi
   simp only [bx,Bool.false_eq_true,if_false,decide_eq_true_eq] at q
   have:=sb.le_drop (Nat.zero_le _) hy
   rw [bk (κ:=κ) eb] at this
   exact (Int.le_trans q this)
  ·obtain rfl:k=0:=by exact l_a (li [k,_] [([1],[2]),([2],[])] [1] [] rfl hk1 (l_o (li [_,ia] [([1,0],[2])] [1] [2] rfl (l_n hia)))) (li [k] [] [] [1] rfl )
   have:a.extract ia (ia+0)= #[]:=by apply Array.toList_inj.mp; simp
   rw [this]; simpa using g
 ·obtain ⟨j,q1,q2,q3⟩:=gK hy
  have q:=hk3 (j - ia) (by exact li [k,_,ia,j] [([3,1],[4]),([4],[2,3])] [1] [2] rfl q1 (l_g _ _)) (by exact li [_,_,j,_,ia] [([3,0],[4]),([4],[2,5]),([1,5],[3])] [1,0] [2] rfl q2 (l_g _ _) (l_d (li [ia,j,k] [([1,3],[2])] [1] [2] rfl q1)))
  simp only [bx,Bool.false_eq_true,if_false,decide_eq_false_iff_not] at q
  rw [show ia+(j - ia)=j by exact l_a (li [ia,_,j] [([2,1],[3])] [1,2] [3] rfl (l_d (li [ia,j,k] [([1,3],[2])] [1] [2] rfl q1))) (li [j,ia,_] [([1],[3,2])] [1] [2,3] rfl (l_g _ _)),bk (κ:=κ) q3] at q
  exact (Int.le_of_lt (Int.not_le.mp q))
theorem FH {a b out:Array Keyed} {ia ib k:Nat} {pa:Keyed} (sa:Seg κ a 0 a.size) (sb:Seg κ b 0 b.size) (g:G κ a b out ia ib) (ea:a[ia]?= some pa) (hk1:k≤b.size - ib) (hk2: ∀ i,i < k→bx κ true pa b ib i=true) (hk3: ∀ i,k≤i→i < b.size - ib→bx κ true pa b ib i=false):
  G κ a b (out++b.extract ib (ib+k)) ia (ib+k)∧∀ y∈b.toList.drop (ib+k),κ pa≤κ y:=by
 refine ⟨?_,fun y hy=>?_⟩
 ·by_cases hib:ib≤b.size
  ·refine (g.swap.bulkA sb k (by exact li [ib,k,_,_] [([2],[4]),([4,1],[3])] [1,2] [3] rfl hk1 (l_d (hib))) fun i hi y hy=>?_).swap
   have q:=hk2 i hi
   simp only [bx,if_true,decide_eq_true_eq] at q
   have:=sa.le_drop (Nat.zero_le _) hy
   rw [bk (κ:=κ) ea] at this
   exact (Int.le_of_lt (Int.lt_of_lt_of_le q this))
  ·obtain rfl:k=0:=by exact l_a (li [k,_] [([1],[2]),([2],[])] [1] [] rfl hk1 (l_o (li [_,ib] [([1,0],[2])] [1] [2] rfl (l_n hib)))) (li [k] [] [] [1] rfl )
   have:b.extract ib (ib+0)= #[]:=by apply Array.toList_inj.mp; simp
   rw [this]; simpa using g
 ·obtain ⟨j,q1,q2,q3⟩:=gK hy
  have q:=hk3 (j - ib) (by exact li [k,_,ib,j] [([3,1],[4]),([4],[2,3])] [1] [2] rfl q1 (l_g _ _)) (by exact li [_,_,j,_,ib] [([3,0],[4]),([4],[2,5]),([1,5],[3])] [1,0] [2] rfl q2 (l_g _ _) (l_d (li [ib,j,k] [([1,3],[2])] [1] [2] rfl q1)))
  simp only [bx,if_true,decide_eq_false_iff_not] at q
  rw [show ib+(j - ib)=j by exact l_a (li [ib,_,j] [([2,1],[3])] [1,2] [3] rfl (l_d (li [ib,j,k] [([1,3],[2])] [1] [2] rfl q1))) (li [j,ib,_] [([1],[3,2])] [1] [2,3] rfl (l_g _ _)),bk (κ:=κ) q3] at q
  exact (Int.not_lt.mp q)
structure Lo (κ:Keyed→Int) (a b out:Array Keyed) (ia ib j:Nat):Prop where
 g:G κ a b out ia ib
 ha:ia+1 < a.size
 hb:ib < b.size
 hj:j≤ia+ib
theorem Lo.less {a b out:Array Keyed} {ia ib j j':Nat} (L:Lo κ a b out ia ib j') (h:j≤j'):Lo κ a b out ia ib j:=⟨L.g,L.ha,L.hb,Nat.le_trans h L.hj⟩
structure Mrg (kd:SortKind) (κ:Keyed→Int) (a₀ a b:Array Keyed):Prop where
 ma: ∀ p∈a.toList,p∈a₀.toList
 mb: ∀ p∈b.toList,p∈a₀.toList
 sa:Seg κ a 0 a.size
 sb:Seg κ b 0 b.size
 first:kAt κ b 0≤kAt κ a 0
 last: ∀ y∈b.toList,κ y≤kAt κ a (a.size - 1)
theorem Mrg.doneA {a b out:Array Keyed} {ia ib:Nat} (M:Mrg kd κ a₀ a b) (g:G κ a b out ia ib) (e:ia=a.size):gr κ a b (out++a.extract ia a.size++b.extract ib b.size):=
 g.fin M.sa M.sb fun x hx=>by rw [e,List.drop_of_length_le (by simp)] at hx; cases hx
theorem Mrg.doneB {a b out:Array Keyed} {ia ib:Nat} (M:Mrg kd κ a₀ a b) (g:G κ a b out ia ib) (e:ib=b.size):gr κ a b (out++a.extract ia a.size++b.extract ib b.size):=
 g.fin M.sa M.sb fun x hx y hy=>by rw [e,List.drop_of_length_le (by simp)] at hy; cases hy
theorem Mrg.lastA {a b out:Array Keyed} {ia ib:Nat} (M:Mrg kd κ a₀ a b) (g:G κ a b out ia ib) (e:ia+1=a.size):gr κ a b (out++b.extract ib b.size++a.extract ia a.size):=
 (g.swap.fin M.sb M.sa fun x hx y hy=>by
  obtain ⟨j,h1,h2,h3⟩:=gK hy
  have:=M.last x (List.mem_of_mem_drop hx)
  rw [show a.size - 1=j by exact l_a (li [_,j,_,ia] [([3],[4,0]),([4],[2]),([1,0],[3])] [1] [2] rfl (l_s e) h1 (l_d (li [_,j] [([2,0],[1])] [0] [1] rfl h2))) (li [j,_,_] [([1,0],[3]),([3],[2,0])] [1] [2] rfl h2 (l_g _ _)),bk (κ:=κ) h3] at this
  exact this).swap
theorem G.start (κ:Keyed→Int) (a b:Array Keyed):G κ a b #[] 0 0:=⟨by simp,List.Pairwise.nil,by simp,by simp⟩
theorem Lo.over {a b out:Array Keyed} {ia ib j:Nat} {P:Prop} (L:Lo κ a b out ia ib j) (h:a.size+b.size≤j):P:=by have:=L.ha; have:=L.hb; have:=L.hj; exact (l_z (lin [_,_,j,ia,ib] [(1,.a (.v 0) (.v 1),.v 2),(1,.a (.a (.v 3) (.n 1)) (.n 1),.v 0),(1,.a (.v 4) (.n 1),.v 1),(1,.v 2,.a (.v 3) (.v 4))] 0 (.n 1) (.n 0) rfl h (by assumption) (by assumption) this)).elim
theorem Lo.moreA {a b out out':Array Keyed} {ia ib j:Nat} (L:Lo κ a b out ia ib j) (g:G κ a b out' (ia+1) ib) (e: ¬ ia+1+1=a.size):Lo κ a b out' (ia+1) ib (j+1):=⟨g,Nat.lt_of_le_of_ne L.ha e,L.hb,by have:=L.hj; exact li [j,ia,ib] [([1],[2,3])] [1,0] [2,0,3] rfl this⟩
theorem Lo.moreB {a b out out':Array Keyed} {ia ib j:Nat} (L:Lo κ a b out ia ib j) (g:G κ a b out' ia (ib+1)) (e: ¬ ib+1=b.size):Lo κ a b out' ia (ib+1) (j+1):=⟨g,L.ha,Nat.lt_of_le_of_ne L.hb e,Nat.succ_le_succ L.hj⟩
theorem Mrg.lessB {a b out:Array Keyed} {ia ib:Nat} {pa pb:Keyed} (M:Mrg kd κ a₀ a b) (g:G κ a b out ia ib) (eb:b[ib]?= some pb) (ea:a[ia]?= some pa) (h:κ pb≤κ pa):G κ a b (out.push pb) ia (ib+1):=
 (g.swap.pushA eb M.sb fun y hy=>by have:=M.sa.le_drop (Nat.zero_le _) hy; rw [bk (κ:=κ) ea] at this; exact Int.le_trans h this).swap
theorem Mrg.lessA {a b out:Array Keyed} {ia ib:Nat} {pa pb:Keyed} (M:Mrg kd κ a₀ a b) (g:G κ a b out ia ib) (ea:a[ia]?= some pa) (eb:b[ib]?= some pb) (h:κ pa≤κ pb):G κ a b (out.push pa) (ia+1) ib:=
 g.pushA ea M.sa fun y hy=>by have:=M.sb.le_drop (Nat.zero_le _) hy; rw [bk (κ:=κ) eb] at this; exact Int.le_trans h this
theorem fj {i k n:Nat} (h:k≤n - i) (hi:i≤n):i+k≤n:=by exact li [i,k,n,_] [([2],[4]),([4,1],[3])] [1,2] [3] rfl h (l_d (hi))
theorem Mrg.inA {a b:Array Keyed} (M:Mrg kd κ a₀ a b) (ia:Nat): ∀ i,i < a.size - ia→∃ p,a[ia+i]?= some p∧p∈a₀.toList:=fun i hi=>let ⟨p,e,m⟩:=tW (show ia+i < a.size by exact li [ia,i,_,_] [([2,0],[4]),([4,1],[3])] [1,2,0] [3] rfl hi (l_p (li [_,i] [([2,0],[1])] [0] [1] rfl hi))); ⟨p,e,M.ma p m⟩
theorem Mrg.inB {a b:Array Keyed} (M:Mrg kd κ a₀ a b) (ib:Nat): ∀ i,i < b.size - ib→∃ p,b[ib+i]?= some p∧p∈a₀.toList:=fun i hi=>let ⟨p,e,m⟩:=tW (show ib+i < b.size by exact li [ib,i,_,_] [([2,0],[4]),([4,1],[3])] [1,2,0] [3] rfl hi (l_p (li [_,i] [([2,0],[1])] [0] [1] rfl hi))); ⟨p,e,M.mb p m⟩
theorem Mrg.segA {a b:Array Keyed} (M:Mrg kd κ a₀ a b) (ia:Nat):Seg κ a ia (ia+(a.size - ia)):=fun i j h1 h2 h3=>M.sa i j (Nat.zero_le _) h2 (by exact li [j,_,ia,_] [([1,0],[3,4]),([4,3],[2])] [1,0] [2] rfl h3 (l_p (li [_,ia,i,j] [([2],[3]),([3],[4]),([4,0],[2,1])] [0] [1] rfl h1 h2 h3)))
theorem Mrg.segB {a b:Array Keyed} (M:Mrg kd κ a₀ a b) (ib:Nat):Seg κ b ib (ib+(b.size - ib)):=fun i j h1 h2 h3=>M.sb i j (Nat.zero_le _) h2 (by exact li [j,_,ib,_] [([1,0],[3,4]),([4,3],[2])] [1,0] [2] rfl h3 (l_p (li [_,ib,i,j] [([2],[3]),([3],[4]),([4,0],[2,1])] [0] [1] rfl h1 h2 h3)))
theorem lG {a b:Array Keyed} {st:SortSt} {Q:Array Keyed→SortSt→Prop} (hL:pA prog w A E s kd κ a₀) (hk:kindOf st=kd) (M:Mrg kd κ a₀ a b) (ha1:1≤a.size) (hb1:1≤b.size)
  (h: ∀ r st',be st st'→gr κ a b r→Q r st'):wpS (model prog w) A E s (nB a b) Q st:=by
 unfold nB
 refine wpS_bind (wpS_lift (wpAny_rule ⟨rfl,wpS_bind (bH hb1 fun p0 e0 m0=>?_)⟩))
 have g1:G κ a b #[p0] 0 1:=((G.start κ b a).pushA e0 M.sb fun y hy=>by rw [← bk (κ:=κ) e0]; exact Int.le_trans M.first (M.sa.le_drop (Nat.le_refl 0) hy)).swap
 refine aB (fun e=>wpS_pure (h _ st (.rfl' st) (M.doneB g1 (beq_iff_eq.mp e)))) fun e1=>aB (fun e=>wpS_pure (h _ st (.rfl' st) (M.lastA g1 (beq_iff_eq.mp e)))) fun e2=>
  wpS_bind (wpS_get (wpS_bind (dS (ρ:=Nat) (h:=fun out ia ib r=>(out,ia,ib,r)) (fun j out ia ib st'=>be st st'∧Lo κ a b out ia ib (j+1)) (fun _ _ _ _=>False)
   (fun v st'=>be st st'∧gr κ a b v) ⟨.rfl' st,g1,Nat.lt_of_le_of_ne ha1 fun q=>e2 (beq_iff_eq.mpr q),Nat.lt_of_le_of_ne hb1 fun q=>e1 (beq_iff_eq.mpr q),Nat.le_refl 1⟩ ?step (fun out ia ib st' q=>q.2.over (Nat.le_succ _)) (fun v x st' q=>wpS_pure (h v st' q.1 q.2)) fun _ _ _ _ _ q=>q.elim)))
 clear h
 intro j out ia ib mg st₁ R _ J hD hN hY
 clear hN
 refine wpS_bind (dS (ρ:=Nat×Nat) (h:=fun out ia ib r=>(out,ia,ib,r)) (fun i out ia ib st'=>be st st'∧Lo κ a b out ia ib (j+1+i)) (fun out ia ib st'=>be st st'∧Lo κ a b out ia ib (j+1+1)) (fun v st'=>be st st'∧gr κ a b v) J ?istep
  (fun out ia ib st' q=>q.2.over (Nat.le_add_left _ _)) (fun v x st' q=>wpS_pure (hD _ _ _ q)) ?ipost)
 case istep=>
  clear hD hY J R
  intro i out ia ib r st' R _ J hD hK hY
  refine wpS_bind (bH J.2.hb fun pb eb mb=>wpS_bind (bH (Nat.lt_of_succ_lt J.2.ha) fun pa ea ma=>wpS_bind (hL pb pa (M.mb pb mb) (M.ma pa ma) st' _ (J.1.kind.trans hk) ?_)))
  refine aB (fun hw=>wpS_bind (bH J.2.hb fun pb' eb' _=>?_)) fun hw=>wpS_bind (bH (Nat.lt_of_succ_lt J.2.ha) fun pa' ea' _=>?_)
  ·have g':=M.lessB J.2.g eb' ea (by rw [Option.some.inj (eb'.symm.trans eb)]; exact Int.le_of_lt (of_decide_eq_true hw))
   refine aB (fun e=>wpS_pure (hD _ _ _ ⟨J.1,M.doneB g' (beq_iff_eq.mp e)⟩)) fun e=>?_
   have L':=J.2.moreB g' fun q=>e (beq_iff_eq.mpr q)
   exact aB (fun _=>wpS_pure (hK _ _ _ _ _ ⟨J.1,L'.less (by exact li [j,i] [] [1,0,0] [1,0,2,0] rfl)⟩)) fun _=>wpS_pure (hY _ _ _ _ _ ⟨J.1,L'⟩)
  ·have g':=M.lessA J.2.g ea' eb (by rw [Option.some.inj (ea'.symm.trans ea)]; exact Int.not_lt.mp fun q=>hw (decide_eq_true q))
   refine aB (fun e=>wpS_pure (hD _ _ _ ⟨J.1,M.lastA g' (beq_iff_eq.mp e)⟩)) fun e=>?_
   have L':=J.2.moreA g' fun q=>e (beq_iff_eq.mpr q)
   exact aB (fun _=>wpS_pure (hK _ _ _ _ _ ⟨J.1,L'.less (by exact li [j,i] [] [1,0,0] [1,0,2,0] rfl)⟩)) fun _=>wpS_pure (hY _ _ _ _ _ ⟨J.1,L'⟩)
 clear J st₁
 intro out ia ib r st₁ J
 refine wpS_bind (wpS_lift (wpAny_rule ⟨rfl,wpS_bind (dS (ρ:=Nat×Nat×Nat) (h:=fun out ia ib r=>(out,ia,ib,r)) (fun i out ia ib st'=>be st st'∧Lo κ a b out ia ib (j+1+1)) (fun out ia ib st'=>be st st'∧Lo κ a b out ia ib (j+1+1)) (fun v st'=>be st st'∧gr κ a b v) J ?gstep
  (fun out ia ib st' q=>q) (fun v x st' q=>wpS_pure (hD _ _ _ q)) fun out ia ib r st' q=>wpS_bind (eG ⟨rfl,rfl,rfl,rfl⟩ fun st₂ hA=>wpS_pure (hY _ _ _ _ _ ⟨q.1.trans hA,q.2⟩)))⟩))
 clear hD hY J R st₁
 intro i out ia ib r st' R _ J hD hK hY
 extract_lets s1 out1 s2 ia1 s3 ib1 s4 mg1 s5 ac1 bc1 ib2 jp mg2
 suffices T: ∀ mg,wpS (model prog w) A E s (jp () mg) R st' from aB (fun _=>T _) fun _=>T _
 intro mg
 refine wpS_bind (eG ⟨rfl,rfl,rfl,rfl⟩ fun st₂ hA=>wpS_bind (bH J.2.hb fun pb eb mb=>wpS_bind (ck (left:=false) (base:=ia) (n:=a.size - ia) (hint:=0) hL ((J.1.trans hA).kind.trans hk) (M.mb pb mb) (M.inA ia) (M.segA ia) (Nat.sub_pos_of_lt (Nat.lt_of_succ_lt J.2.ha)) fun k hk1 hk2 hk3=>?_)))
 have g2:=FI M.sa M.sb J.2.g eb hk1 hk2 hk3
 replace hA:=J.1.trans hA
 clear hk2 hk3 mb
 dsimp -zeta only
 extract_lets ac2 jp2 out2 ia2
 have T: ∀ out ia,G κ a b out ia ib→ia+1 < a.size→(∀ y∈a.toList.drop ia,κ pb≤κ y)→j+1+1≤ia+ib→wpS (model prog w) A E s (jp2 () out ia) R st₂:=by
  intro out ia g h1 hgt h3
  refine wpS_bind (bH J.2.hb fun pb' eb' _=>?_)
  have g3:=(g.swap.pushA eb' M.sb (Option.some.inj (eb.symm.trans eb')▸hgt)).swap
  refine aB (fun e=>wpS_pure (hD _ _ _ ⟨hA,M.doneB g3 (beq_iff_eq.mp e)⟩)) fun e=>?_
  have hib:ib+1 < b.size:=Nat.lt_of_le_of_ne J.2.hb fun q=>e (beq_iff_eq.mpr q)
  refine wpS_bind (bH (Nat.lt_of_succ_lt h1) fun pa ea ma=>wpS_bind (ck (left:=true) (base:=ib+1) (n:=b.size - (ib+1)) (hint:=0) hL (hA.kind.trans hk) (M.ma pa ma) (M.inB (ib+1)) (M.segB (ib+1)) (Nat.sub_pos_of_lt hib) fun k hk1 hk2 hk3=>?_))
  have g4:=FH M.sa M.sb g3 ea hk1 hk2 hk3
  clear hk2 hk3 ma
  dsimp -zeta only
  extract_lets bc3 ia3 jp3 out3 ib3
  have T: ∀ out ib,G κ a b out ia ib→ib < b.size→(∀ y∈b.toList.drop ib,κ pa≤κ y)→j+1+1≤ia+ib→wpS (model prog w) A E s (jp3 () out ib) R st₂:=by
   intro out ib g h2 hlt h3
   refine wpS_bind (bH (Nat.lt_of_succ_lt h1) fun pa' ea' _=>?_)
   have g5:=g.pushA ea' M.sa (Option.some.inj (ea.symm.trans ea')▸hlt)
   refine aB (fun e=>wpS_pure (hD _ _ _ ⟨hA,M.lastA g5 (beq_iff_eq.mp e)⟩)) fun e=>?_
   have L':Lo κ a b (out.push pa') (ia+1) ib (j+1+1):=⟨g5,Nat.lt_of_le_of_ne h1 fun q=>e (beq_iff_eq.mpr q),h2,Nat.le_trans h3 (by rw [Nat.add_right_comm]; exact Nat.le_succ _)⟩
   exact aB (fun _=>wpS_pure (hK _ _ _ _ _ ⟨hA,L'⟩)) fun _=>wpS_pure (hY _ _ _ _ _ ⟨hA,L'⟩)
  refine aB (fun _=>aB (fun e=>wpS_pure (hD _ _ _ ⟨hA,M.doneB g4.1 (beq_iff_eq.mp e)⟩)) fun e=>T _ _ g4.1 (Nat.lt_of_le_of_ne (fj hk1 (Nat.le_of_lt hib)) fun q=>e (beq_iff_eq.mpr q)) g4.2 (Nat.le_trans h3 (Nat.add_le_add_left (Nat.le_trans (Nat.le_succ _) (Nat.le_add_right _ _)) _))) fun hk0=>T _ _ g3 hib ?_ (Nat.le_succ_of_le h3)
  obtain rfl:k=0:=Nat.eq_zero_of_not_pos hk0
  exact g4.2
 refine aB (fun _=>aB (fun e=>wpS_pure (hD _ _ _ ⟨hA,M.lastA g2.1 (beq_iff_eq.mp e)⟩)) fun e=>aB (fun e=>wpS_pure (hD _ _ _ ⟨hA,M.doneA g2.1 (beq_iff_eq.mp e)⟩)) fun e'=>
  T _ _ g2.1 (Nat.lt_of_le_of_ne (Nat.lt_of_le_of_ne (fj hk1 (Nat.le_of_lt (Nat.lt_of_succ_lt J.2.ha))) fun q=>e' (beq_iff_eq.mpr q)) fun q=>e (beq_iff_eq.mpr q)) g2.2 (Nat.le_trans J.2.hj (Nat.add_le_add_right (Nat.le_add_right _ _) _))) fun hk0=>T _ _ J.2.g J.2.ha ?_ J.2.hj
 obtain rfl:k=0:=Nat.eq_zero_of_not_pos hk0
 exact g2.2
end
end
noncomputable section
open PySem PyProof.Rows
noncomputable def nF:Array Keyed→Array Keyed→StateT SortSt Sem (Array Keyed):=sortPriv% PySem.Builtin.mergeHi
section
variable {prog:Program} {w:World} {A:Around} {E:Value→Shared→Prop} {s:Shared} {kd:SortKind} {κ:Keyed→Int} {a₀:Array Keyed}
abbrev Hh (κ:Keyed→Int) (a b out:Array Keyed) (na nb:Nat):Prop:=G (fun x=>-κ x) a.reverse b.reverse out (a.size - na) (b.size - nb)
theorem yh {a:Array Keyed} {na:Nat} (h0:0 < na) (hn:na≤a.size):a.reverse[a.size - na]?= a[na - 1]?:=by
 rw [Array.getElem?_reverse (by exact lin [_,_,na] [(1,.a (.n 0) (.n 1),.v 2),(1,.a (.v 0) (.v 2),.v 1)] 1 (.a (.v 0) (.n 1)) (.v 1) rfl h0 (l_d (hn)))]; congr 1; exact l_a (li [_,_,na,_,_,_] [([3],[2,0]),([4,0],[5]),([5],[6,3]),([1,6],[4])] [1] [2] rfl (l_g _ _) (l_d (lin [_,na] [(1,.a (.n 0) (.n 1),.v 1),(1,.v 1,.v 0)] 1 (.n 1) (.v 0) rfl h0 hn)) (l_g _ _) (l_d (lin [_,_,na,_] [(1,.a (.n 0) (.n 1),.v 2),(1,.v 3,.a (.v 1) (.n 1)),(1,.a (.v 0) (.v 2),.v 3)] 1 (.v 0) (.v 1) rfl h0 (l_g _ _) (l_d (hn))))) (li [_,_,na,_,_,_] [([1,0],[3]),([4],[5,0]),([6,3],[4]),([5],[2,6])] [1] [2] rfl (l_d (lin [na] [(1,.a (.n 0) (.n 1),.v 0)] 1 (.n 1) (.v 0) rfl h0)) (l_g _ _) (l_d (hn)) (l_g _ _))
theorem wa {a:Array Keyed} {i:Nat} (h:i < a.size):kAt (fun x=>-κ x) a.reverse i= -kAt κ a (a.size - 1 - i):=by
 rw [kAt,kAt,Array.getElem?_reverse h,Array.getElem?_eq_getElem (show a.size - 1 - i < a.size by exact li [_,_,_,i] [([3,0],[2]),([1,4],[3])] [1,0] [2] rfl (l_d (li [_,i] [([2,0],[1])] [0] [1] rfl h)) (l_d (li [i,_,_] [([1,0],[3]),([3],[2,0])] [1] [2] rfl h (l_g _ _))))]; rfl
theorem jT {a:Array Keyed} (h:Seg κ a 0 a.size):Seg (fun x=>-κ x) a.reverse 0 a.reverse.size:=fun i j _ hij hj=>by
 rw [Array.size_reverse] at hj
 rw [wa (Nat.lt_of_le_of_lt hij hj),wa hj]
 exact Int.neg_le_neg (h _ _ (Nat.zero_le _) (by exact li [_,_,i,j,_] [([3],[4]),([1,4],[5]),([5],[2,3])] [1] [2] rfl hij (l_d (li [j,_,_] [([1,0],[3]),([3],[2,0])] [1] [2] rfl hj (l_g _ _))) (l_g _ _)) (by exact li [_,_,_,i] [([3,0],[2]),([1,4],[3])] [1,0] [2] rfl (l_d (li [_,j] [([2,0],[1])] [0] [1] rfl hj)) (l_d (li [i,_,j,_] [([1],[3]),([3,0],[4]),([4],[2,0])] [1] [2] rfl hij hj (l_g _ _)))))
theorem gx {b:Array Keyed} {nb:Nat} (hn:nb≤b.size):b.reverse.toList.drop (b.size - nb)=(b.toList.take nb).reverse:=by
 rw [Array.toList_reverse,List.drop_reverse]; congr 2; rw [Array.length_toList]; exact l_a (li [_,nb,_,_] [([3],[4,2]),([1,4],[3])] [1] [2] rfl (l_g _ _) (l_d (li [_,_,nb] [([1,3],[2])] [1] [2] rfl (l_d (hn))))) (li [nb,_,_,_] [([3,1],[4]),([4],[2,3])] [1] [2] rfl (l_d (hn)) (l_g _ _))
theorem qj {a:Array Keyed} {i n:Nat} (hi:i≤n) (hn:n≤a.size):a.reverse.extract (a.size - n) (a.size - i)=(a.extract i n).reverse:=by
 apply Array.toList_inj.mp
 rw [Array.toList_extract,Array.toList_reverse,Array.toList_reverse,Array.toList_extract,List.extract_eq_take_drop,List.extract_eq_take_drop,List.drop_reverse,List.take_reverse,List.length_take,Array.length_toList,List.drop_take,show min (a.size - (a.size - n)) a.size - (a.size - i - (a.size - n))=i by exact l_a (li [_,i,_,_,_,_,_,_] [([3],[4,2]),([4],[5,6]),([7,6],[3]),([8],[7]),([1,5],[8])] [1] [2] rfl (l_g _ _) (l_g _ _) (l_d (li [_,_,_,i,_] [([3,4],[2]),([5,1],[3])] [1] [2] rfl (l_d (li [i,_,n] [([1],[3]),([3],[2])] [1] [2] rfl hi hn)) (l_d (li [_,_,i,n,_] [([3],[4]),([5],[2,3]),([1,4],[5])] [1] [2] rfl hi (l_g _ _) (l_d (hn)))))) (Nat.min_le_left _ _) (l_d (li [_,_,_,i,_,_,_] [([3,4],[5]),([1,6],[3]),([5],[7,6]),([7],[2])] [1] [2] rfl (l_d (li [i,_,n] [([1],[3]),([3],[2])] [1] [2] rfl hi hn)) (l_d (li [_,_,i,n,_] [([3],[4]),([5],[2,3]),([1,4],[5])] [1] [2] rfl hi (l_g _ _) (l_d (hn)))) (l_g _ _) (l_m (li [_,_,_] [([1,3],[2])] [1] [2] rfl (l_d (li [_,_,_,i,_] [([3,4],[2]),([5,1],[3])] [1] [2] rfl (l_d (li [i,_,n] [([1],[3]),([3],[2])] [1] [2] rfl hi hn)) (l_d (li [_,_,i,n,_] [([3],[4]),([5],[2,3]),([1,4],[5])] [1] [2] rfl hi (l_g _ _) (l_d (hn))))))))))) (li [i,_,_,_,_,_,_,_] [([3,1],[4]),([5,6],[3]),([4],[7,6]),([7],[8]),([8],[2,5])] [1] [2] rfl (l_d (li [i,_,n] [([1],[3]),([3],[2])] [1] [2] rfl hi hn)) (l_d (li [_,_,i,n,_] [([3],[4]),([5],[2,3]),([1,4],[5])] [1] [2] rfl hi (l_g _ _) (l_d (hn)))) (l_g _ _) (l_m (li [_,_,_] [([1,3],[2])] [1] [2] rfl (l_d (li [_,_,_,i,_] [([3,4],[2]),([5,1],[3])] [1] [2] rfl (l_d (li [i,_,n] [([1],[3]),([3],[2])] [1] [2] rfl hi hn)) (l_d (li [_,_,i,n,_] [([3],[4]),([5],[2,3]),([1,4],[5])] [1] [2] rfl hi (l_g _ _) (l_d (hn)))))))) (l_g _ _)),show a.size - (a.size - n) - i=n - i by exact l_a (li [_,_,n,i,_,_,_] [([3],[2,4]),([5],[6,3]),([7,6],[5]),([1,4],[7])] [1] [2] rfl (l_g _ _) (l_g _ _) (l_d (li [_,_,n] [([1,3],[2])] [1] [2] rfl (l_d (hn)))) (l_d (li [i,_,n,_,_] [([1],[3]),([4,3],[5]),([5],[2,4])] [1] [2] rfl hi (l_d (hn)) (l_g _ _)))) (li [_,_,i,n,_,_,_] [([1,3],[4]),([5,4],[6]),([6],[7,5]),([7],[2,3])] [1] [2] rfl (l_d (hi)) (l_d (hn)) (l_g _ _) (l_g _ _))]
theorem Hh.pushA {a b out:Array Keyed} {na nb:Nat} {p:Keyed} (g:Hh κ a b out na nb) (h0:0 < na) (hn:na≤a.size) (hb:nb≤b.size) (e:a[na - 1]?= some p) (sa:Seg κ a 0 a.size) (hp: ∀ y∈b.toList.take nb,κ y≤κ p):Hh κ a b (out.push p) (na - 1) nb:=by
 have:=G.pushA g ((yh h0 hn).trans e) (jT sa) fun y hy=>Int.neg_le_neg (hp y (by rw [gx hb] at hy; exact List.mem_reverse.mp hy))
 rwa [show a.size - na+1=a.size - (na - 1) by exact l_a (li [_,_,na,_,_] [([1,3],[4]),([5,0],[3]),([4],[2,5])] [1,0] [2] rfl (l_d (hn)) (l_d (lin [na] [(1,.a (.n 0) (.n 1),.v 0)] 1 (.n 1) (.v 0) rfl h0)) (l_g _ _)) (li [_,_,_,na,_] [([3],[2,4]),([4],[5,0]),([1,5],[3])] [1] [2,0] rfl (l_g _ _) (l_g _ _) (l_d (li [_,_,na] [([3],[2]),([1,0],[3])] [1] [2] rfl hn (l_d (lin [na] [(1,.a (.n 0) (.n 1),.v 0)] 1 (.n 1) (.v 0) rfl h0)))))] at this
theorem Hh.bulkA {a b out:Array Keyed} {na nb i:Nat} (g:Hh κ a b out na nb) (hi:i≤na) (hn:na≤a.size) (hb:nb≤b.size) (sa:Seg κ a 0 a.size) (hp: ∀ k,i≤k→k < na→∀ y∈b.toList.take nb,κ y≤kAt κ a k):Hh κ a b (out++(a.extract i na).reverse) i nb:=by
 have:=G.bulkA g (jT sa) (na - i) (by rw [Array.size_reverse]; exact li [_,_,_,na,i] [([1,4],[3]),([2,5],[4])] [1,2] [3] rfl (l_d (hn)) (l_d (hi))) fun k hk y hy=>by
  rw [wa (by exact li [_,k,_,_,i,na] [([2,0],[4]),([4,5],[6]),([1,6],[3])] [1,2,0] [3] rfl hk (l_d (hi)) (l_d (hn)))]
  exact Int.neg_le_neg (hp _ (by exact lin [i,_,k,_,na,_,_,_] [(1,.a (.v 2) (.n 1),.v 3),(1,.a (.v 3) (.v 0),.v 4),(1,.v 5,.a (.v 6) (.n 1)),(1,.a (.v 7) (.v 4),.v 5),(1,.v 6,.a (.v 1) (.a (.v 7) (.v 2)))] 1 (.v 0) (.v 1) rfl hk (l_d (hi)) (l_g _ _) (l_d (hn)) (l_g _ _)) (by exact lin [_,na,_,_,_,k] [(1,.a (.v 2) (.n 1),.v 3),(1,.v 3,.a (.v 4) (.v 1)),(1,.a (.v 0) (.a (.v 4) (.v 5)),.v 2)] 1 (.a (.v 0) (.n 1)) (.v 1) rfl (l_d (li [_,na,k,_,i] [([2],[1]),([3,0],[4]),([4,5],[2])] [0] [1] rfl hn hk (l_d (hi)))) (l_g _ _) (l_d (li [_,k,_,_,i,na,_] [([2,0],[4]),([4,5],[6]),([7],[3,0]),([1,6],[7])] [1,2] [3] rfl hk (l_d (hi)) (l_g _ _) (l_d (hn))))) y (by rw [gx hb] at hy; exact List.mem_reverse.mp hy))
 rwa [show a.size - na+(na - i)=a.size - i by exact l_a (li [_,_,_,na,_,i] [([1,4],[5]),([2,6],[4]),([5],[3,6])] [1,2] [3] rfl (l_d (hn)) (l_d (hi)) (l_g _ _)) (li [_,_,_,_,na,i] [([4],[2,5]),([5],[3,6]),([1,6],[4])] [1] [2,3] rfl (l_g _ _) (l_g _ _) (l_d (li [i,_,na] [([1],[3]),([3],[2])] [1] [2] rfl hi hn))),qj hi hn] at this
theorem gr.rev {a b r:Array Keyed} (h:gr (fun x=>-κ x) a.reverse b.reverse r):gr κ a b r.reverse:=by
 refine ⟨?_,?_⟩
 ·have:=h.1
  rw [Array.toList_reverse,Array.toList_reverse] at this
  rw [Array.toList_reverse]
  exact (List.reverse_perm _).trans (this.trans ((List.reverse_perm _).append (List.reverse_perm _)))
 ·rw [Srt,Array.toList_reverse,List.pairwise_reverse]
  exact h.2.imp fun q=>Int.neg_le_neg_iff.mp q
theorem Hh.fin {a b out:Array Keyed} {na nb:Nat} (g:Hh κ a b out na nb) (ha:na≤a.size) (hb:nb≤b.size) (sa:Seg κ a 0 a.size) (sb:Seg κ b 0 b.size) (h: ∀ x∈a.toList.take na,∀ y∈b.toList.take nb,κ x≤κ y):gr κ a b (a.extract 0 na++b.extract 0 nb++out.reverse):=by
 have:=(G.fin g.swap (jT sb) (jT sa) fun x hx y hy=>Int.neg_le_neg (h y (by rw [gx ha] at hy; exact List.mem_reverse.mp hy) x (by rw [gx hb] at hx; exact List.mem_reverse.mp hx))).swap.rev
 rw [Array.size_reverse,Array.size_reverse] at this
 have e1:=qj (a:=a) (Nat.zero_le na) ha
 have e2:=qj (a:=b) (Nat.zero_le nb) hb
 rw [Nat.sub_zero] at e1 e2
 rwa [e1,e2,Array.reverse_append,Array.reverse_append,Array.reverse_reverse,Array.reverse_reverse,← Array.append_assoc] at this
theorem jP {a:Array Keyed} {n:Nat} {p:Keyed} (sa:Seg κ a 0 a.size) (h0:0 < n) (e:a[n - 1]?= some p) {y:Keyed} (hy:y∈a.toList.take n):κ y≤κ p:=by
 obtain ⟨i,hi,hq⟩:=List.mem_take_iff_getElem.mp hy
 have h1:=(Array.getElem?_eq_some_iff.mp e).1
 rw [← bk (κ:=κ) e,← hq]
 have h2:i < a.size:=by rw [Array.length_toList] at hi; exact li [i,_,_,_,n] [([1,0],[3]),([4,0],[2]),([5],[4,0]),([3],[5])] [1,0] [2] rfl (by assumption) h1 (l_g _ _) (Nat.min_le_left _ _)
 have:=sa i (n - 1) (Nat.zero_le _) (by exact li [i,_,_,n] [([1,0],[3]),([4],[2,0]),([3],[4])] [1] [2] rfl hi (l_g _ _) (Nat.min_le_left _ _)) h1
 rwa [bk (κ:=κ) (Array.getElem?_eq_getElem h2)] at this
theorem jQ {a:Array Keyed} {n:Nat} {y:Keyed} (hy:y∈a.toList.take n): ∃ i,i < n∧kAt κ a i=κ y:=by
 obtain ⟨i,hi,hq⟩:=List.mem_take_iff_getElem.mp hy
 rw [Array.length_toList] at hi
 refine ⟨i,by exact li [i,n,_] [([1,0],[3]),([3],[2])] [1,0] [2] rfl (by assumption) (Nat.min_le_left _ _),?_⟩
 rw [bk (κ:=κ) (Array.getElem?_eq_getElem (show i < a.size by exact li [i,_,_] [([1,0],[3]),([3],[2])] [1,0] [2] rfl hi (Nat.min_le_right _ _))),← hq]; rfl
structure Hi (κ:Keyed→Int) (a b out:Array Keyed) (na nb j:Nat):Prop where
 g:Hh κ a b out na nb
 a0:0 < na
 b0:1 < nb
 an:na≤a.size
 bn:nb≤b.size
 hj:j+(na+nb)≤a.size+b.size
theorem Hi.less {a b out:Array Keyed} {na nb j j':Nat} (L:Hi κ a b out na nb j') (h:j≤j'):Hi κ a b out na nb j:=⟨L.g,L.a0,L.b0,L.an,L.bn,Nat.le_trans (Nat.add_le_add_right h _) L.hj⟩
theorem Hi.over {a b out:Array Keyed} {na nb j:Nat} {P:Prop} (L:Hi κ a b out na nb j) (h:a.size+b.size≤j):P:=by have:=L.a0; have:=L.hj; exact (l_z (lin [_,_,j,na,nb] [(1,.a (.v 0) (.v 1),.v 2),(1,.a (.n 0) (.n 1),.v 3),(1,.a (.v 2) (.a (.v 3) (.v 4)),.a (.v 0) (.v 1))] 0 (.n 1) (.n 0) rfl h (by assumption) this)).elim
theorem Hi.moreA {a b out out':Array Keyed} {na nb j:Nat} (L:Hi κ a b out na nb j) (g:Hh κ a b out' (na - 1) nb) (e: ¬ na - 1=0):Hi κ a b out' (na - 1) nb (j+1):=⟨g,Nat.pos_of_ne_zero e,L.b0,Nat.le_trans (Nat.sub_le _ _) L.an,L.bn,by have:=L.hj; have:=L.a0; exact lin [j,_,nb,_,_,na] [(1,.a (.v 0) (.a (.v 5) (.v 2)),.a (.v 3) (.v 4)),(1,.a (.v 1) (.n 1),.v 5)] 1 (.a (.a (.v 0) (.n 1)) (.a (.v 1) (.v 2))) (.a (.v 3) (.v 4)) rfl (by assumption) (l_d (lin [na] [(1,.a (.n 0) (.n 1),.v 0)] 1 (.n 1) (.v 0) rfl this))⟩
theorem Hi.moreB {a b out out':Array Keyed} {na nb j:Nat} (L:Hi κ a b out na nb j) (g:Hh κ a b out' na (nb - 1)) (e: ¬ nb - 1=1):Hi κ a b out' na (nb - 1) (j+1):=⟨g,L.a0,by have:=L.b0; exact (Nat.lt_of_le_of_ne (li [_,nb] [([0,0],[2]),([2],[1,0])] [0] [1] rfl this (l_g _ _)) (Ne.symm e)),L.an,Nat.le_trans (Nat.sub_le _ _) L.bn,by have:=L.hj; have:=L.b0; exact lin [j,na,_,_,_,nb] [(1,.a (.v 0) (.a (.v 1) (.v 5)),.a (.v 3) (.v 4)),(1,.a (.v 2) (.n 1),.v 5)] 1 (.a (.a (.v 0) (.n 1)) (.a (.v 1) (.v 2))) (.a (.v 3) (.v 4)) rfl (by assumption) (l_d (li [nb] [([0,0],[1])] [0] [1] rfl this))⟩
theorem Mrg.endA {a b out:Array Keyed} {na nb:Nat} (M:Mrg kd κ a₀ a b) (g:Hh κ a b out na nb) (hb:nb≤b.size) (e:na=0):gr κ a b (a.extract 0 na++b.extract 0 nb++out.reverse):=
 g.fin (by exact li [na,_] [([1],[])] [1] [2] rfl (l_e e)) hb M.sa M.sb fun x hx=>by rw [e,List.take_zero] at hx; cases hx
theorem Mrg.endB {a b out:Array Keyed} {na nb:Nat} (M:Mrg kd κ a₀ a b) (g:Hh κ a b out na nb) (ha:na≤a.size) (e:nb=0):gr κ a b (a.extract 0 na++b.extract 0 nb++out.reverse):=
 g.fin ha (by exact li [nb,_] [([1],[])] [1] [2] rfl (l_e e)) M.sa M.sb fun x hx y hy=>by rw [e,List.take_zero] at hy; cases hy
theorem Mrg.oneB {a b out:Array Keyed} {na nb:Nat} (M:Mrg kd κ a₀ a b) (g:Hh κ a b out na nb) (ha:na≤a.size) (hb:nb≤b.size) (e:nb=1):gr κ a b (b.extract 0 nb++a.extract 0 na++out.reverse):=
 (Hh.fin g.swap hb ha M.sb M.sa fun x hx y hy=>by
  obtain ⟨i,h1,h2⟩:=jQ (κ:=κ) hx
  obtain ⟨j,h3,h4⟩:=jQ (κ:=κ) hy
  obtain rfl:i=0:=by exact l_a (li [i,nb] [([2],[0]),([1,0],[2])] [1] [] rfl (l_e e) h1) (li [i] [] [] [1] rfl )
  rw [← h2,← h4]
  exact Int.le_trans M.first (M.sa 0 j (Nat.le_refl 0) (Nat.zero_le _) (by exact li [j,_,na] [([3],[2]),([1,0],[3])] [1,0] [2] rfl ha h3))).swap
theorem hiA {a b out:Array Keyed} {na nb k:Nat} {pb:Keyed} (M:Mrg kd κ a₀ a b) (g:Hh κ a b out na nb) (h0:0 < nb) (ha:na≤a.size) (hb:nb≤b.size) (eb:b[nb - 1]?= some pb) (hk1:k≤na) (hk2: ∀ i,i < k→bx κ false pb a 0 i=true) (hk3: ∀ i,k≤i→i < na→bx κ false pb a 0 i=false):
  Hh κ a b (out++(a.extract k na).reverse) k nb∧∀ y∈a.toList.take k,κ y≤κ pb:=by
 refine ⟨g.bulkA hk1 ha hb M.sa fun i h1 h2 y hy=>?_,fun y hy=>?_⟩
 ·have:=jP M.sb h0 eb hy
  have q:=hk3 i h1 h2
  simp only [bx,Bool.false_eq_true,if_false,decide_eq_false_iff_not,Nat.zero_add] at q
  exact (Int.le_of_lt (Int.lt_of_le_of_lt this (Int.not_le.mp q)))
 ·obtain ⟨i,h1,h2⟩:=jQ (κ:=κ) hy
  have q:=hk2 i h1
  simp only [bx,Bool.false_eq_true,if_false,decide_eq_true_eq,Nat.zero_add] at q
  exact (Int.le_trans (Int.le_of_eq (Eq.symm h2)) q)
theorem hiB {a b out:Array Keyed} {na nb k:Nat} {pa:Keyed} (M:Mrg kd κ a₀ a b) (g:Hh κ a b out na nb) (h0:0 < na) (ha:na≤a.size) (hb:nb≤b.size) (ea:a[na - 1]?= some pa) (hk1:k≤nb) (hk2: ∀ i,i < k→bx κ true pa b 0 i=true) (hk3: ∀ i,k≤i→i < nb→bx κ true pa b 0 i=false):
  Hh κ a b (out++(b.extract k nb).reverse) na k∧∀ y∈b.toList.take k,κ y≤κ pa:=by
 refine ⟨(Hh.bulkA g.swap hk1 hb ha M.sb fun i h1 h2 y hy=>?_).swap,fun y hy=>?_⟩
 ·have:=jP M.sa h0 ea hy
  have q:=hk3 i h1 h2
  simp only [bx,if_true,decide_eq_false_iff_not,Nat.zero_add] at q
  exact (Int.le_trans this (Int.not_lt.mp q))
 ·obtain ⟨i,h1,h2⟩:=jQ (κ:=κ) hy
  have q:=hk2 i h1
  simp only [bx,if_true,decide_eq_true_eq,Nat.zero_add] at q
  exact (Int.le_of_lt (Int.lt_of_le_of_lt (Int.le_of_eq (Eq.symm h2)) q))
theorem Hh.start (κ:Keyed→Int) (a b:Array Keyed):Hh κ a b #[] a.size b.size:=by rw [Hh,Nat.sub_self,Nat.sub_self]; exact G.start ..
theorem Mrg.hiLessA {a b out:Array Keyed} {na nb j:Nat} {pa pb:Keyed} (M:Mrg kd κ a₀ a b) (L:Hi κ a b out na nb j) (ea:a[na - 1]?= some pa) (eb:b[nb - 1]?= some pb) (h:κ pb≤κ pa):Hh κ a b (out.push pa) (na - 1) nb:=
 L.g.pushA L.a0 L.an L.bn ea M.sa fun _ hy=>Int.le_trans (jP M.sb (Nat.lt_trans Nat.zero_lt_one L.b0) eb hy) h
theorem Mrg.hiLessB {a b out:Array Keyed} {na nb j:Nat} {pa pb:Keyed} (M:Mrg kd κ a₀ a b) (L:Hi κ a b out na nb j) (eb:b[nb - 1]?= some pb) (ea:a[na - 1]?= some pa) (h:κ pa≤κ pb):Hh κ a b (out.push pb) na (nb - 1):=
 (Hh.pushA L.g.swap (Nat.lt_trans Nat.zero_lt_one L.b0) L.bn L.an eb M.sb fun _ hy=>Int.le_trans (jP M.sa L.a0 ea hy) h).swap
theorem cq {i n:Nat} (h0:0 < i) (h:i≤n):i - 1 < n:=by exact li [_,n,i] [([3],[2]),([1,0],[3])] [1,0] [2] rfl h (l_d (lin [i] [(1,.a (.n 0) (.n 1),.v 0)] 1 (.n 1) (.v 0) rfl h0))
theorem Mrg.inA' {a b:Array Keyed} {n:Nat} (M:Mrg kd κ a₀ a b) (h:n≤a.size): ∀ i,i < n→∃ p,a[0+i]?= some p∧p∈a₀.toList:=fun i hi=>M.inA 0 i (Nat.lt_of_lt_of_le hi h)
theorem Mrg.inB' {a b:Array Keyed} {n:Nat} (M:Mrg kd κ a₀ a b) (h:n≤b.size): ∀ i,i < n→∃ p,b[0+i]?= some p∧p∈a₀.toList:=fun i hi=>M.inB 0 i (Nat.lt_of_lt_of_le hi h)
theorem ty {a:Array Keyed} {n:Nat} (sa:Seg κ a 0 a.size) (h:n≤a.size):Seg κ a 0 (0+n):=fun i j h1 h2 h3=>sa i j h1 h2 (Nat.lt_of_lt_of_le h3 (by rw [Nat.zero_add]; exact h))
theorem xD {n:Nat} (h:1 < n) (e: ¬ n - 1=1):1 < n - 1:=by exact (Nat.lt_of_le_of_ne (li [_,n] [([0,0],[2]),([2],[1,0])] [0] [1] rfl h (l_g _ _)) (Ne.symm e))
theorem tY {k n:Nat} (h:k≤n) (e: ¬ n - k > 0):k=n:=by exact l_a (h) (li [n,k,_] [([3],[]),([1],[3,2])] [1] [2] rfl (l_t e) (l_g _ _))
theorem uq {x y z n:Nat} (h:x+(y+z)≤n):x+(y+(z - 1))≤n:=by exact lin [x,y,_,n,z] [(1,.a (.v 0) (.a (.v 1) (.v 4)),.v 3),(1,.v 2,.v 4)] 1 (.a (.v 0) (.a (.v 1) (.v 2))) (.v 3) rfl h (Nat.sub_le _ _)
theorem lH {a b:Array Keyed} {st:SortSt} {Q:Array Keyed→SortSt→Prop} (hL:pA prog w A E s kd κ a₀) (hk:kindOf st=kd) (M:Mrg kd κ a₀ a b) (ha1:1≤a.size) (hb1:1≤b.size)
  (h: ∀ r st',be st st'→gr κ a b r→Q r st'):wpS (model prog w) A E s (nF a b) Q st:=by
 unfold nF
 refine wpS_bind (wpS_lift (wpAny_rule ⟨rfl,wpS_bind (bH (cq ha1 (Nat.le_refl _)) fun p0 e0 m0=>?_)⟩))
 have g1:Hh κ a b #[p0] (a.size - 1) b.size:=(Hh.start κ a b).pushA ha1 (Nat.le_refl _) (Nat.le_refl _) e0 M.sa fun y hy=>by have:=M.last y (List.mem_of_mem_take hy); rwa [bk (κ:=κ) e0] at this
 refine aB (fun e=>wpS_pure (h _ st (.rfl' st) (M.endA g1 (Nat.le_refl _) (beq_iff_eq.mp e)))) fun e1=>aB (fun e=>wpS_pure (h _ st (.rfl' st) (M.oneB g1 (Nat.sub_le _ _) (Nat.le_refl _) (beq_iff_eq.mp e)))) fun e2=>
  wpS_bind (wpS_get (wpS_bind (dS (ρ:=Nat) (h:=fun out na nb r=>(na,nb,out,r)) (fun j out na nb st'=>be st st'∧Hi κ a b out na nb (j+1)) (fun _ _ _ _=>False)
   (fun v st'=>be st st'∧gr κ a b v) ⟨.rfl' st,g1,Nat.pos_of_ne_zero fun q=>e1 (beq_iff_eq.mpr q),Nat.lt_of_le_of_ne hb1 fun q=>e2 (beq_iff_eq.mpr q.symm),Nat.sub_le _ _,Nat.le_refl _,by exact lin [_,_,_] [(1,.a (.v 0) (.n 1),.v 2)] 1 (.a (.a (.n 0) (.n 1)) (.a (.v 0) (.v 1))) (.a (.v 2) (.v 1)) rfl (l_d (ha1))⟩ ?step (fun out na nb st' q=>q.2.over (Nat.le_succ _)) (fun v x st' q=>wpS_pure (h v st' q.1 q.2)) fun _ _ _ _ _ q=>q.elim)))
 clear h
 intro j out na nb mg st₁ R _ J hD hN hY
 clear hN
 refine wpS_bind (dS (ρ:=Nat×Nat) (h:=fun out na nb r=>(na,nb,out,r)) (fun i out na nb st'=>be st st'∧Hi κ a b out na nb (j+1+i)) (fun out na nb st'=>be st st'∧Hi κ a b out na nb (j+1+1)) (fun v st'=>be st st'∧gr κ a b v) J ?istep
  (fun out na nb st' q=>q.2.over (Nat.le_add_left _ _)) (fun v x st' q=>wpS_pure (hD _ _ _ q)) ?ipost)
 case istep=>
  clear hD hY J R
  intro i out na nb r st' R _ J hD hK hY
  have b0:0 < nb:=Nat.lt_trans Nat.zero_lt_one J.2.b0
  refine wpS_bind (bH (cq b0 J.2.bn) fun pb eb mb=>wpS_bind (bH (cq J.2.a0 J.2.an) fun pa ea ma=>wpS_bind (hL pb pa (M.mb pb mb) (M.ma pa ma) st' _ (J.1.kind.trans hk) ?_)))
  refine aB (fun hw=>wpS_bind (bH (cq J.2.a0 J.2.an) fun pa' ea' _=>?_)) fun hw=>wpS_bind (bH (cq b0 J.2.bn) fun pb' eb' _=>?_)
  ·have g':=M.hiLessA J.2 ea' eb (by rw [Option.some.inj (ea'.symm.trans ea)]; exact Int.le_of_lt (of_decide_eq_true hw))
   refine aB (fun e=>wpS_pure (hD _ _ _ ⟨J.1,M.endA g' J.2.bn (beq_iff_eq.mp e)⟩)) fun e=>?_
   have L':=J.2.moreA g' fun q=>e (beq_iff_eq.mpr q)
   exact aB (fun _=>wpS_pure (hK _ _ _ _ _ ⟨J.1,L'.less (by exact li [j,i] [] [1,0,0] [1,0,2,0] rfl)⟩)) fun _=>wpS_pure (hY _ _ _ _ _ ⟨J.1,L'⟩)
  ·have g':=M.hiLessB J.2 eb' ea (by rw [Option.some.inj (eb'.symm.trans eb)]; exact Int.not_lt.mp fun q=>hw (decide_eq_true q))
   refine aB (fun e=>wpS_pure (hD _ _ _ ⟨J.1,M.oneB g' J.2.an (Nat.le_trans (Nat.sub_le _ _) J.2.bn) (beq_iff_eq.mp e)⟩)) fun e=>?_
   have L':=J.2.moreB g' fun q=>e (beq_iff_eq.mpr q)
   exact aB (fun _=>wpS_pure (hK _ _ _ _ _ ⟨J.1,L'.less (by exact li [j,i] [] [1,0,0] [1,0,2,0] rfl)⟩)) fun _=>wpS_pure (hY _ _ _ _ _ ⟨J.1,L'⟩)
 clear J st₁
 intro out na nb r st₁ J
 refine wpS_bind (wpS_lift (wpAny_rule ⟨rfl,wpS_bind (dS (ρ:=Nat×Nat×Nat) (h:=fun out na nb r=>(na,nb,out,r)) (fun i out na nb st'=>be st st'∧Hi κ a b out na nb (j+1+1)) (fun out na nb st'=>be st st'∧Hi κ a b out na nb (j+1+1)) (fun v st'=>be st st'∧gr κ a b v) J ?gstep
  (fun out na nb st' q=>q) (fun v x st' q=>wpS_pure (hD _ _ _ q)) fun out na nb r st' q=>wpS_bind (eG ⟨rfl,rfl,rfl,rfl⟩ fun st₂ hA=>wpS_pure (hY _ _ _ _ _ ⟨q.1.trans hA,q.2⟩)))⟩))
 clear hD hY J R st₁
 intro i out na nb r st' R _ J hD hK hY
 have b0:0 < nb:=Nat.lt_trans Nat.zero_lt_one J.2.b0
 extract_lets s1 na1 s2 nb1 s3 out1 s4 mg1 s5 ac1 bc1 nb2 jp mg2
 suffices T: ∀ mg,wpS (model prog w) A E s (jp () mg) R st' from aB (fun _=>T _) fun _=>T _
 intro mg
 refine wpS_bind (eG ⟨rfl,rfl,rfl,rfl⟩ fun st₂ hA=>wpS_bind (bH (cq b0 J.2.bn) fun pb eb mb=>wpS_bind (ck (left:=false) (base:=0) (n:=na) (hint:=na - 1) hL ((J.1.trans hA).kind.trans hk) (M.mb pb mb) (M.inA' J.2.an) (ty M.sa J.2.an) (cq J.2.a0 (Nat.le_refl _)) fun k hk1 hk2 hk3=>?_)))
 have g2:=hiA M J.2.g b0 J.2.an J.2.bn eb hk1 hk2 hk3
 replace hA:=J.1.trans hA
 clear hk2 hk3 mb
 dsimp -zeta only
 extract_lets k2 ac2 jp2 out2 na2
 have T: ∀ na out,Hh κ a b out na nb→0 < na→na≤a.size→(∀ y∈a.toList.take na,κ y≤κ pb)→j+1+1+(na+nb)≤a.size+b.size→wpS (model prog w) A E s (jp2 () na out) R st₂:=by
  intro na out g h0 hn hle h3
  refine wpS_bind (bH (cq b0 J.2.bn) fun pb' eb' _=>?_)
  have g3:Hh κ a b (out.push pb') na (nb - 1):=(Hh.pushA g.swap b0 J.2.bn hn eb' M.sb (Option.some.inj (eb.symm.trans eb')▸hle)).swap
  have bn:=Nat.le_trans (Nat.sub_le nb 1) J.2.bn
  refine aB (fun e=>wpS_pure (hD _ _ _ ⟨hA,M.oneB g3 hn bn (beq_iff_eq.mp e)⟩)) fun e=>?_
  have hnb:=xD J.2.b0 fun q=>e (beq_iff_eq.mpr q)
  have h3:=uq h3
  refine wpS_bind (bH (cq h0 hn) fun pa ea ma=>wpS_bind (ck (left:=true) (base:=0) (n:=nb - 1) (hint:=nb - 1 - 1) hL (hA.kind.trans hk) (M.ma pa ma) (M.inB' bn) (ty M.sb bn) (cq (Nat.lt_trans Nat.zero_lt_one hnb) (Nat.le_refl _)) fun k hk1 hk2 hk3=>?_))
  have g4:=hiB M g3 h0 hn bn ea hk1 hk2 hk3
  clear hk2 hk3 ma
  dsimp -zeta only
  extract_lets k3 bc3 na3 jp3 out3 nb3
  have T: ∀ nb out,Hh κ a b out na nb→1 < nb→nb≤b.size→(∀ y∈b.toList.take nb,κ y≤κ pa)→j+1+1+(na+nb)≤a.size+b.size→wpS (model prog w) A E s (jp3 () nb out) R st₂:=by
   intro nb out g h2 hn2 hlt h3
   refine wpS_bind (bH (cq h0 hn) fun pa' ea' _=>?_)
   have g5:=g.pushA h0 hn hn2 ea' M.sa (Option.some.inj (ea.symm.trans ea')▸hlt)
   refine aB (fun e=>wpS_pure (hD _ _ _ ⟨hA,M.endA g5 hn2 (beq_iff_eq.mp e)⟩)) fun e=>?_
   have L':Hi κ a b (out.push pa') (na - 1) nb (j+1+1):=⟨g5,Nat.pos_of_ne_zero fun q=>e (beq_iff_eq.mpr q),h2,Nat.le_trans (Nat.sub_le _ _) hn,hn2,Nat.le_trans (Nat.add_le_add_left (Nat.add_le_add_right (Nat.sub_le _ _) _) _) h3⟩
   exact aB (fun _=>wpS_pure (hK _ _ _ _ _ ⟨hA,L'⟩)) fun _=>wpS_pure (hY _ _ _ _ _ ⟨hA,L'⟩)
  refine aB (fun _=>aB (fun e=>wpS_pure (hD _ _ _ ⟨hA,M.oneB g4.1 hn (Nat.le_trans hk1 bn) (beq_iff_eq.mp e)⟩)) fun e=>aB (fun e=>wpS_pure (hD _ _ _ ⟨hA,M.endB g4.1 hn (beq_iff_eq.mp e)⟩)) fun e'=>
   T _ _ g4.1 (Nat.lt_of_le_of_ne (Nat.pos_of_ne_zero fun q=>e' (beq_iff_eq.mpr q)) fun q=>e (beq_iff_eq.mpr q.symm)) (Nat.le_trans hk1 bn) g4.2 (Nat.le_trans (Nat.add_le_add_left (Nat.add_le_add_left hk1 _) _) h3)) fun hk0=>T _ _ g3 hnb bn ?_ h3
  have q: ∀ y∈b.toList.take (nb - 1),κ y≤κ pa:=by rw [← tY hk1 hk0]; exact g4.2
  exact q
 refine aB (fun _=>aB (fun e=>wpS_pure (hD _ _ _ ⟨hA,M.endA g2.1 J.2.bn (beq_iff_eq.mp e)⟩)) fun e=>
  T _ _ g2.1 (Nat.pos_of_ne_zero fun q=>e (beq_iff_eq.mpr q)) (Nat.le_trans hk1 J.2.an) g2.2 (Nat.le_trans (Nat.add_le_add_left (Nat.add_le_add_right hk1 _) _) J.2.hj)) fun hk0=>T _ _ J.2.g J.2.a0 J.2.an ?_ J.2.hj
 have q: ∀ y∈a.toList.take na,κ y≤κ pb:=by rw [← tY hk1 hk0]; exact g2.2
 exact q
end
end
noncomputable section
open PySem PyProof.Rows
section
variable {prog:Program} {w:World} {A:Around} {E:Value→Shared→Prop} {s:Shared} {kd:SortKind} {κ:Keyed→Int} {a₀:Array Keyed}
theorem ql (b:Nat): ∀ (l:List Keyed) (n:Nat) (xs:Array Keyed) (k:Nat),b+n+l.length≤xs.size→
  ((l.zipIdx n).foldl (fun a x=>a.setIfInBounds (b+x.2) x.1) xs)[k]?= if b+n≤k∧k < b+n+l.length then l[k - (b+n)]? else xs[k]?
 | [],n,xs,k,_=>(if_neg fun h=>Nat.lt_irrefl _ (Nat.lt_of_lt_of_le h.2 h.1)).symm
 | p::l,n,xs,k,h=>by
  rw [List.length_cons] at h
  rw [List.zipIdx_cons,List.foldl_cons,ql b l (n+1) _ k (by rw [Array.size_setIfInBounds]; exact li [b,n,_,_] [([1,2,3,0],[4])] [1,2,0,3] [4] rfl h),List.length_cons]
  by_cases h1:b+(n+1)≤k∧k < b+(n+1)+l.length
  ·rw [if_pos h1,if_pos (by exact ⟨li [b,n,k] [([1,2,0],[3])] [1,2] [3] rfl h1.1,li [k,b,n,_] [([1,0],[2,3,0,4])] [1,0] [2,3,4,0] rfl h1.2⟩),show k - (b+n)=k - (b+(n+1))+1 by exact l_a (lin [_,_,b,n,k] [(1,.a (.v 0) (.a (.v 2) (.v 3)),.v 4),(1,.v 4,.a (.v 1) (.a (.v 2) (.a (.v 3) (.n 1))))] 1 (.v 0) (.a (.v 1) (.n 1)) rfl (l_d (li [b,n,k] [([1,2,0],[3])] [1,2] [3] rfl h1.1)) (l_g _ _)) (lin [_,_,k,b,n] [(1,.v 2,.a (.v 1) (.a (.v 3) (.v 4))),(1,.a (.v 0) (.a (.v 3) (.a (.v 4) (.n 1))),.v 2)] 1 (.a (.v 0) (.n 1)) (.v 1) rfl (l_g _ _) (l_d (h1.1))),List.getElem?_cons_succ]
  ·rw [if_neg h1,Array.getElem?_setIfInBounds]
   by_cases h2:b+n=k
   ·rw [if_pos h2,if_pos (by exact li [b,n,_,_] [([1,2,4,0],[3])] [1,2,0] [3] rfl h),if_pos (by exact ⟨(l_e h2),li [k,b,n,_] [([1],[2,3])] [1,0] [2,3,4,0] rfl (l_s h2)⟩),show k - (b+n)=0 by exact l_a (lin [_,k,b,n] [(1,.v 1,.a (.v 2) (.v 3)),(1,.a (.v 0) (.a (.v 2) (.v 3)),.v 1)] 1 (.v 0) (.n 0) rfl (l_s h2) (l_d ((l_e h2)))) (li [_] [] [] [1] rfl ),List.getElem?_cons_zero]
   ·rw [if_neg h2,if_neg (by lia)]
structure DU (κ:Keyed→Int) (xs ys r:Array Keyed) (p q:Nat):Prop where
 get: ∀ k:Nat,ys[k]?= if p≤k∧k < q then r[k - p]? else xs[k]?
 size:r.size=q - p
 srt:Seg κ r 0 r.size
 from': ∀ j,j < r.size→∃ i,p≤i∧i < q∧kAt κ r j=kAt κ xs i
theorem DU.seg {xs ys r:Array Keyed} {lo p q hi:Nat} (L:DU κ xs ys r p q) (hP:Seg κ xs lo p) (hS:Seg κ xs q hi)
  (h1: ∀ i j,lo≤i→i < p→p≤j→j < hi→kAt κ xs i≤kAt κ xs j) (h2: ∀ i j,p≤i→i < q→q≤j→j < hi→kAt κ xs i≤kAt κ xs j) (hpq:p≤q) (hqh:q≤hi):Seg κ ys lo hi:=by
 have out: ∀ k,¬ (p≤k∧k < q)→kAt κ ys k=kAt κ xs k:=fun k hk=>aY (by rw [L.get,if_neg hk])
 have inn: ∀ k,p≤k→k < q→kAt κ ys k=kAt κ r (k - p):=fun k a b=>aY (by rw [L.get,if_pos ⟨a,b⟩])
 intro i j hi' hij hj
 by_cases a:i < p
 ·rw [out i fun h=>Nat.lt_irrefl _ (Nat.lt_of_lt_of_le a h.1)]
  by_cases b:j < p
  ·rw [out j fun h=>Nat.lt_irrefl _ (Nat.lt_of_lt_of_le b h.1)]; exact hP i j hi' hij b
  ·by_cases c:j < q
   ·rw [inn j (Nat.not_lt.mp b) c]
    obtain ⟨m,q1,q2,q3⟩:=L.from' (j - p) (by rw [L.size]; exact li [_,_,j,q,p] [([3,0],[4]),([1,5],[3]),([4],[2,5])] [1,0] [2] rfl c (l_d ((l_t b))) (l_g _ _))
    rw [q3]; exact h1 i m hi' a q1 (Nat.lt_of_lt_of_le q2 hqh)
   ·rw [out j fun h=>c h.2]; exact h1 i j hi' a (Nat.not_lt.mp b) hj
 ·have a:=Nat.not_lt.mp a
  by_cases b:i < q
  ·rw [inn i a b]
   by_cases c:j < q
   ·rw [inn j (Nat.le_trans a hij) c]
    exact L.srt _ _ (Nat.zero_le _) (Nat.sub_le_sub_right hij p) (by rw [L.size]; exact li [_,_,j,q,p] [([3,0],[4]),([1,5],[3]),([4],[2,5])] [1,0] [2] rfl c (l_d (li [p,j,i] [([3],[2]),([1],[3])] [1] [2] rfl hij (l_t (by assumption)))) (l_g _ _))
   ·obtain ⟨m,q1,q2,q3⟩:=L.from' (i - p) (by rw [L.size]; exact li [_,_,i,q,p] [([3,0],[4]),([1,5],[3]),([4],[2,5])] [1,0] [2] rfl b (l_d ((l_t (by assumption)))) (l_g _ _))
    rw [out j fun h=>c h.2,q3]; exact h2 m j q1 q2 (Nat.not_lt.mp c) hj
  ·have b:=Nat.not_lt.mp b
   rw [out i fun h=>Nat.not_lt.mpr b h.2,out j fun h=>Nat.not_lt.mpr (Nat.le_trans b hij) h.2]; exact hS i j b hij hj
theorem qE {xs ys r:Array Keyed} {p q:Nat} (h: ∀ k:Nat,ys[k]?= if p≤k∧k < q then r[k - p]? else xs[k]?) (hs:r.size=q - p) (hpq:p≤q) (hq:q≤xs.size):ys.toList=xs.toList.take p++(r.toList++xs.toList.drop q):=by
 apply List.ext_getElem?
 intro k
 have hl:(xs.toList.take p).length=p:=by rw [List.length_take,Array.length_toList]; exact Nat.min_eq_left (li [p,_,q] [([1],[3]),([3],[2])] [1] [2] rfl hpq hq)
 rw [Array.getElem?_toList,h,List.getElem?_append,hl,List.getElem?_append,Array.length_toList,hs]
 by_cases h1:k < p
 ·rw [if_neg (fun q=>Nat.lt_irrefl _ (Nat.lt_of_lt_of_le h1 q.1)),if_pos h1,List.getElem?_take_of_lt h1,Array.getElem?_toList]
 ·rw [if_neg h1]
  by_cases h2:k < q
  ·rw [if_pos ⟨Nat.not_lt.mp h1,h2⟩,if_pos (by exact li [_,_,k,q,p] [([3,0],[4]),([4],[2,5]),([1,5],[3])] [1,0] [2] rfl h2 (l_g _ _) (l_d ((l_t h1)))),Array.getElem?_toList]
  ·rw [if_neg (fun q=>h2 q.2),if_neg (by exact Nat.not_lt_of_ge (li [_,_,q,k,p] [([3],[4]),([1,5],[3]),([4],[2,5])] [1] [2] rfl (l_t h2) (l_d (hpq)) (l_g _ _))),List.getElem?_drop,Array.getElem?_toList]; congr 1; exact l_a (li [k,q,_,_,p,_] [([4,5],[2]),([1],[6,5]),([6],[3,4])] [1] [2,3] rfl (l_d (hpq)) (l_g _ _) (l_g _ _)) (li [q,_,k,_,p,_] [([1],[4,5]),([6,5],[3]),([2,4],[6])] [1,2] [3] rfl (l_g _ _) (l_d ((l_t h1))) (l_d (li [_,_,q,k,p] [([3],[4]),([1,5],[3]),([4],[2,5])] [1] [2] rfl (l_t h2) (l_d (hpq)) (l_g _ _))))
theorem GR (xs:List Keyed) {p q:Nat} (h:p≤q):xs=xs.take p++((xs.drop p).take (q - p)++xs.drop q):=by
 have:=List.take_append_drop (q - p) (xs.drop p)
 rw [List.drop_drop,show p+(q - p)=q by exact l_a (li [p,_,q] [([2,1],[3])] [1,2] [3] rfl (l_d (h))) (li [q,p,_] [([1],[3,2])] [1] [2,3] rfl (l_g _ _))] at this
 rw [this,List.take_append_drop]
theorem ll {xs:Array Keyed} {p q j:Nat} (hq:q≤xs.size) (h:j < q - p):(xs.extract p q)[j]?= xs[p+j]?:=by
 rw [Array.getElem?_extract,if_pos (by exact li [j,_,_,p,q,_] [([1,0],[3]),([3,4],[5]),([5],[6]),([6],[2,4])] [1,0] [2] rfl h (l_p (li [_,j] [([2,0],[1])] [0] [1] rfl h)) (l_m (hq)) (l_g _ _))]
theorem ki {xs:Array Keyed} {p q:Nat} (hq:q≤xs.size):(xs.extract p q).size=q - p:=by rw [Array.size_extract]; lia
theorem tK {xs:Array Keyed} {p q:Nat} (hq:q≤xs.size) (h:Seg κ xs p q):Seg κ (xs.extract p q) 0 (xs.extract p q).size:=fun i j _ hij hj=>by
 rw [ki hq] at hj
 rw [aY (ll hq (Nat.lt_of_le_of_lt hij hj)),aY (ll hq hj)]
 exact h _ _ (Nat.le_add_right _ _) (Nat.add_le_add_left hij _) (by exact li [p,j,q,_] [([2,0],[4]),([4,1],[3])] [1,2,0] [3] rfl hj (l_p (li [_,j] [([2,0],[1])] [0] [1] rfl hj)))
theorem nV {xs:Array Keyed} {p q:Nat} {y:Keyed} (hy:y∈(xs.extract p q).toList):y∈xs.toList∧∃ i,p≤i∧i < q∧kAt κ xs i=κ y:=by
 rw [Array.toList_extract,List.extract_eq_take_drop] at hy
 obtain ⟨i,hi,e⟩:=List.mem_take_iff_getElem.mp hy
 rw [List.length_drop,Array.length_toList] at hi
 rw [List.getElem_drop] at e
 refine ⟨by rw [← e]; exact List.getElem_mem _,p+i,Nat.le_add_right _ _,by exact li [p,i,q,_,_] [([2,0],[4]),([4],[5]),([5,1],[3])] [1,2,0] [3] rfl (by assumption) (Nat.min_le_left _ _) (l_p (li [_,i,_] [([2,0],[3]),([3],[1])] [0] [1] rfl (by assumption) (Nat.min_le_left _ _))),?_⟩
 rw [bk (κ:=κ) (Array.getElem?_eq_getElem (show p+i < xs.size by exact li [p,i,_,_,_] [([2,0],[4]),([4],[5]),([5,1],[3])] [1,2,0] [3] rfl hi (Nat.min_le_right _ _) (l_p (li [_,i,_] [([2,0],[3]),([3],[1])] [0] [1] rfl hi (Nat.min_le_right _ _))))),← e]; rfl
theorem Srt.seg {r:Array Keyed} (h:Srt κ r.toList):Seg κ r 0 r.size:=fun i j _ hij hj=>by
 by_cases e:i=j
 ·rw [e]; exact Int.le_refl _
 ·rw [bk (κ:=κ) (Array.getElem?_eq_getElem hj),bk (κ:=κ) (Array.getElem?_eq_getElem (Nat.lt_of_le_of_lt hij hj))]
  exact List.pairwise_iff_getElem.mp h i j (by rw [Array.length_toList]; exact li [i,_,j] [([1],[3]),([3,0],[2])] [1,0] [2] rfl hij hj) (by rw [Array.length_toList]; exact hj) (Nat.lt_of_le_of_ne hij e)
structure ub (κ:Keyed→Int) (xs ys:Array Keyed) (lo hi:Nat):Prop where
 perm:ys.Perm xs
 seg:Seg κ ys lo hi
 out: ∀ k,k < lo∨hi≤k→ys[k]?= xs[k]?
theorem qw {xs r:Array Keyed} {lo mid hi p q:Nat} (hlp:lo≤p) (hpm:p < mid) (hmq:mid < q) (hqh:q≤hi) (hh:hi≤xs.size) (s1:Seg κ xs lo mid) (s2:Seg κ xs mid hi)
  (h1: ∀ i,lo≤i→i < p→kAt κ xs i≤kAt κ xs mid) (h2: ∀ i,q≤i→i < hi→kAt κ xs (mid - 1)≤kAt κ xs i) (g:gr κ (xs.extract p mid) (xs.extract mid q) r):
  ub κ xs ((r.toList.zipIdx 0).foldl (fun a x=>a.setIfInBounds (p+x.2) x.1) xs) lo hi:=by
 have e:(xs.extract p mid).toList++(xs.extract mid q).toList=(xs.toList.drop p).take (q - p):=by
  rw [Array.toList_extract,Array.toList_extract,List.extract_eq_take_drop,List.extract_eq_take_drop,show q - p=(mid - p)+(q - mid) by exact l_a (li [_,_,_,p,q,_] [([1,4],[5]),([6],[2,4]),([5],[3,6])] [1] [2,3] rfl (l_d (li [p,q,_] [([1,0],[3]),([3,0],[2])] [1] [2] rfl hpm hmq)) (l_g _ _) (l_g _ _)) (li [_,_,_,q,p,_] [([4],[3,5]),([1,5],[6]),([2,6],[4])] [1,2] [3] rfl (l_g _ _) (l_d (li [p,_] [([1,0],[2])] [1] [2] rfl hpm)) (l_d (li [_,q] [([1,0],[2])] [1] [2] rfl hmq))),List.take_add,List.drop_drop,show p+(mid - p)=mid by exact l_a (li [p,_,_] [([2,1],[3])] [1,2] [3] rfl (l_d (li [p,_] [([1,0],[2])] [1] [2] rfl hpm))) (li [_,p,_] [([1],[3,2])] [1] [2,3] rfl (l_g _ _))]
 have hr:r.size=q - p:=by
  have:=g.1.length_eq
  rw [e,List.length_take,List.length_drop,Array.length_toList,Array.length_toList] at this
  exact l_a (li [_,_,_] [([1],[3]),([3],[2])] [1] [2] rfl (l_e this) (Nat.min_le_left _ _)) (li [_,_,_] [([3],[2]),([1],[3])] [1] [2] rfl (l_s this) (l_m (li [_,_,q,hi,_,p] [([3],[4]),([4],[5]),([1,6],[3]),([5],[2,6])] [1] [2] rfl hqh hh (l_d (li [p,q,_] [([1,0],[3]),([3,0],[2])] [1] [2] rfl hpm hmq)) (l_g _ _))))
 have get: ∀ k:Nat,((r.toList.zipIdx 0).foldl (fun a x=>a.setIfInBounds (p+x.2) x.1) xs)[k]?= if p≤k∧k < q then r[k - p]? else xs[k]?:=fun k=>by
  rw [ql p r.toList 0 xs k (by rw [Array.length_toList]; exact lin [p,_,_,q,hi,_] [(1,.v 3,.v 4),(1,.v 4,.v 2),(1,.v 1,.v 5),(1,.a (.v 5) (.v 0),.v 3)] 1 (.a (.a (.v 0) (.n 0)) (.v 1)) (.v 2) rfl hqh hh (l_e hr) (l_d (li [p,q,_] [([1,0],[3]),([3,0],[2])] [1] [2] rfl hpm hmq))),Array.length_toList,hr,Array.getElem?_toList,Nat.add_zero,show p+(q - p)=q by exact l_a (li [p,_,q] [([2,1],[3])] [1,2] [3] rfl (l_d (li [p,q,_] [([1,0],[3]),([3,0],[2])] [1] [2] rfl hpm hmq))) (li [q,p,_] [([1],[3,2])] [1] [2,3] rfl (l_g _ _))]
 have L:DU κ xs ((r.toList.zipIdx 0).foldl (fun a x=>a.setIfInBounds (p+x.2) x.1) xs) r p q:=by
  refine ⟨get,hr,Srt.seg g.2,fun j hj=>?_⟩
  have hm:r[j]∈(xs.extract p q).toList:=by
   rw [Array.toList_extract,List.extract_eq_take_drop,← e]
   exact g.1.mem_iff.mp (by simp)
  obtain ⟨_,i,a,b,c⟩:=nV (κ:=κ) hm
  exact ⟨i,a,b,by rw [c,bk (κ:=κ) (Array.getElem?_eq_getElem hj)]⟩
 refine ⟨?_,L.seg (fun i j a b c=>s1 i j a b (Nat.lt_trans c hpm)) (fun i j a b c=>s2 i j (Nat.le_trans (Nat.le_of_lt hmq) a) b c) (fun i j a b c d=>?_) (fun i j a b c d=>?_) (Nat.le_of_lt (Nat.lt_trans hpm hmq)) hqh,fun k hk=>by rw [get,if_neg (by lia)]⟩
 ·rw [Array.perm_iff_toList_perm,qE get hr (Nat.le_of_lt (Nat.lt_trans hpm hmq)) (Nat.le_trans hqh hh)]
  conv=>rhs; rw [GR xs.toList (show p≤q from Nat.le_of_lt (Nat.lt_trans hpm hmq)),← e]
  exact (g.1.append_right _).append_left _
 ·by_cases x:j < mid
  ·exact s1 i j a (Nat.le_trans (Nat.le_of_lt b) c) x
  ·exact Int.le_trans (h1 i a b) (s2 mid j (Nat.le_refl _) (Nat.not_lt.mp x) d)
 ·by_cases x:i < mid
  ·exact Int.le_trans (s1 i (mid - 1) (Nat.le_trans hlp a) (by exact li [i,_,_] [([1,0],[3]),([3],[2,0])] [1] [2] rfl x (l_g _ _)) (by exact (l_d (li [_,i] [([2,0],[1])] [0] [1] rfl x)))) (h2 j c d)
  ·exact s2 i j (Nat.not_lt.mp x) (Nat.le_trans (Nat.le_of_lt b) c) d
theorem nj {xs:Array Keyed} {lo mid hi:Nat} (s1:Seg κ xs lo mid) (s2:Seg κ xs mid hi) (h: ∀ i j,lo≤i→i < mid→mid≤j→j < hi→kAt κ xs i≤kAt κ xs j):Seg κ xs lo hi:=fun i j a b c=>by
 by_cases x:j < mid
 ·exact s1 i j a b x
 ·by_cases y:i < mid
  ·exact h i j a y (Nat.not_lt.mp x) c
  ·exact s2 i j (Nat.not_lt.mp y) b c
theorem uf {x:SortSt} {Q:PUnit→SortSt→Prop} {st:SortSt} {P:SortSt→Prop} (p:P x) (h: ∀ x,P x→Q ⟨⟩ x):wpS (model prog w) A E s (set x:StateT SortSt Sem PUnit) Q st:=by
 unfold wpS; exact wpAny_pure ⟨rfl,h x p⟩
theorem lI {st:SortSt} {i sa na pw sb nb pw':Nat} {Q:Bool→SortSt→Prop} (hL:pA prog w A E s kd κ a₀) (hB:SB kd a₀ st) (h1:(pendingOf st)[i]?= some (sa,na,pw)) (h2:(pendingOf st)[i+1]?= some (sb,nb,pw'))
  (e:sb=sa+na) (hna:0 < na) (hnb:0 < nb) (hn:sb+nb≤a₀.size) (s1:Seg κ (arrOf st) sa sb) (s2:Seg κ (arrOf st) sb (sb+nb))
  (h: ∀ st',SB kd a₀ st'→pendingOf st'=((pendingOf st).setIfInBounds i (sa,na+nb,pw)).eraseIdxIfInBounds (i+1)→ub κ (arrOf st) (arrOf st') sa (sb+nb)→Q true st'):
  wpS (model prog w) A E s (mergeAt' i) Q st:=by
 unfold mergeAt'
 refine wpS_bind (wpS_get ?_)
 rw [h1,h2]
 dsimp -zeta only
 refine wpS_bind (uf (P:=fun st'=>SB kd a₀ st'∧pendingOf st'=((pendingOf st).setIfInBounds i (sa,na+nb,pw)).eraseIdxIfInBounds (i+1)∧arrOf st'=arrOf st) ⟨⟨hB.perm,hB.kind,hB.failed⟩,rfl,rfl⟩ fun st₂ P=>?_)
 have hs:(arrOf st).size=a₀.size:=hB.size
 have mem: ∀ p∈(arrOf st).toList,p∈a₀.toList:=fun p hp=>(Array.perm_iff_toList_perm.mp hB.perm).mem_iff.mp hp
 have same:Seg κ (arrOf st) sa (sb+nb)→Q true st₂:=fun sg=>h st₂ P.1 P.2.1 ⟨by rw [P.2.2],by rw [P.2.2]; exact sg,fun k _=>by rw [P.2.2]⟩
 refine wpS_bind (bH (show sb < (arrOf st).size by exact lin [sb,_,nb,_] [(1,.a (.n 0) (.n 1),.v 2),(1,.a (.v 0) (.v 2),.v 3),(1,.v 3,.v 1)] 1 (.a (.v 0) (.n 1)) (.v 1) rfl hnb hn (l_s hs)) fun pb eb mb=>wpS_bind (ck (left:=false) (base:=sa) (n:=na) (hint:=0) hL P.1.kind (mem pb mb) (fun i hi=>hB.at (by exact li [sa,i,_,na,sb,nb] [([1,4],[5]),([5,6],[3]),([2,0],[4])] [1,2,0] [3] rfl (l_s e) hn hi)) (e▸s1) hna fun k hk1 hk2 hk3=>?_))
 have b1: ∀ i,sa≤i→i < sa+k→kAt κ (arrOf st) i≤kAt κ (arrOf st) sb:=fun i a b=>by
  have q:=hk2 (i - sa) (by exact li [_,k,i,sa] [([3,0],[4,2]),([1,4],[3])] [1,0] [2] rfl b (l_d (a)))
  simp only [bx,Bool.false_eq_true,if_false,decide_eq_true_eq] at q
  rwa [show sa+(i - sa)=i by exact l_a (li [sa,_,i] [([2,1],[3])] [1,2] [3] rfl (l_d (a))) (li [i,sa,_] [([1],[3,2])] [1] [2,3] rfl (l_g _ _)),← bk (κ:=κ) eb] at q
 dsimp -zeta only
 refine aB (fun z=>wpS_pure (same (nj s1 s2 fun i j a b c d=>Int.le_trans (b1 i a (by have:=beq_iff_eq.mp z; exact li [i,sa,k,sb,na,_] [([4],[2,5]),([1,0],[4]),([6],[]),([5],[6,3])] [1,0] [2,3] rfl (l_e e) b (l_e this) (l_g _ _))) (s2 sb j (Nat.le_refl _) c d)))) fun z=>?_
 have z:k < na:=Nat.lt_of_le_of_ne hk1 fun q=>z (beq_iff_eq.mpr (by exact l_a (li [_,na,k] [([2],[3]),([1,3],[2])] [1] [] rfl (l_s q) (l_d (hk1))) (li [_] [] [] [1] rfl )))
 refine wpS_bind (bH (show sa+k+(na - k) - 1 < (arrOf st).size by exact li [_,_,sa,na,sb,nb,_,_,k] [([3,4],[5]),([5,6],[7]),([7],[2]),([8,9],[4]),([1,0],[3,9,8])] [1,0] [2] rfl (l_s e) hn (l_s hs) (l_d (hk1)) (l_d (lin [sa,k,_,na] [(1,.a (.n 0) (.n 1),.v 3),(1,.v 3,.a (.v 2) (.v 1))] 1 (.n 1) (.a (.a (.v 0) (.v 1)) (.v 2)) rfl hna (l_g _ _)))) fun pa ea ma=>wpS_bind (ck (left:=true) (base:=sb) (n:=nb) (hint:=nb - 1) hL P.1.kind (mem pa ma) (fun i hi=>hB.at (by exact li [sb,i,_,nb] [([1,4],[3]),([2,0],[4])] [1,2,0] [3] rfl hn hi)) s2 (by exact (l_d (lin [nb] [(1,.a (.n 0) (.n 1),.v 0)] 1 (.n 1) (.v 0) rfl hnb))) fun k' hk1' hk2' hk3'=>?_))
 rw [show sa+k+(na - k) - 1=sb - 1 by exact l_a (li [_,_,sa,na,sb,_,k] [([3,4],[5]),([5],[2,0]),([6,7],[4]),([1,0],[3,7,6])] [1] [2] rfl (l_s e) (l_g _ _) (l_d (hk1)) (l_d (li [sa,k,_,sb,na,_] [([4],[1,5]),([6,0],[4]),([5],[3,2])] [0] [1,2,3] rfl (l_e e) (l_d (lin [sb,sa,na] [(1,.a (.v 1) (.v 2),.v 0),(1,.a (.n 0) (.n 1),.v 2)] 1 (.n 1) (.v 0) rfl (l_s e) hna)) (l_g _ _)))) (li [_,_,sb,sa,na,_,k] [([3],[4,5]),([1,0],[3]),([5],[6,7]),([4,7,6],[2,0])] [1] [2] rfl (l_e e) (l_d (lin [sb,sa,na] [(1,.a (.v 1) (.v 2),.v 0),(1,.a (.n 0) (.n 1),.v 2)] 1 (.n 1) (.v 0) rfl (l_s e) hna)) (l_g _ _) (l_g _ _))] at ea
 have b2: ∀ i,sb+k'≤i→i < sb+nb→kAt κ (arrOf st) (sb - 1)≤kAt κ (arrOf st) i:=fun i a b=>by
  have q:=hk3' (i - sb) (by exact li [k',_,sb,i] [([3,1],[4]),([4],[2,3])] [1] [2] rfl a (l_g _ _)) (by exact li [_,nb,i,sb] [([3,0],[4,2]),([1,4],[3])] [1,0] [2] rfl b (l_d (li [sb,i,k'] [([1,3],[2])] [1] [2] rfl a)))
  simp only [bx,if_true,decide_eq_false_iff_not] at q
  rw [show sb+(i - sb)=i by exact l_a (li [sb,_,i] [([2,1],[3])] [1,2] [3] rfl (l_d (li [sb,i,k'] [([1,3],[2])] [1] [2] rfl a))) (li [i,sb,_] [([1],[3,2])] [1] [2,3] rfl (l_g _ _)),← bk (κ:=κ) ea] at q
  exact Int.not_lt.mp q
 dsimp -zeta only
 refine aB (fun z'=>wpS_pure (same (nj s1 s2 fun i j a b c d=>Int.le_trans (s1 i (sb - 1) a (by exact li [i,_,sb] [([1,0],[3]),([3],[2,0])] [1] [2] rfl b (l_g _ _)) (by exact (l_d (li [sb,i] [([2,0],[1])] [0] [1] rfl b)))) (b2 j (by have:=beq_iff_eq.mp z'; exact li [sb,k',j] [([1],[3]),([2],[])] [1,2] [3] rfl c (l_e this)) d)))) fun z'=>?_
 have z':0 < k':=Nat.pos_of_ne_zero fun q=>z' (beq_iff_eq.mpr q)
 extract_lets x y jp
 have M:Mrg kd κ a₀ x y:=by
  refine ⟨fun p hp=>mem p (nV (κ:=κ) hp).1,fun p hp=>mem p (nV (κ:=κ) hp).1,tK (show sb≤(arrOf st).size by exact li [sb,_,nb,_] [([1,3],[4]),([4],[2])] [1] [2] rfl hn (l_s hs)) fun i j a b c=>s1 i j (by exact li [sa,i,k] [([1,3],[2])] [1] [2] rfl a) b c,tK (show sb+k'≤(arrOf st).size by exact li [sb,k',_,nb,_] [([1,4],[5]),([5],[3]),([2],[4])] [1,2] [3] rfl hn (l_s hs) hk1') fun i j a b c=>s2 i j a b (by exact li [j,sb,nb,k'] [([4],[3]),([1,0],[2,4])] [1,0] [2,3] rfl hk1' c),?_,fun p hp=>?_⟩
  ·show kAt κ ((arrOf st).extract sb (sb+k')) 0≤kAt κ ((arrOf st).extract (sa+k) sb) 0
   rw [aY (ll (by exact li [sb,k',_,nb,_] [([1,4],[5]),([5],[3]),([2],[4])] [1,2] [3] rfl hn (l_s hs) hk1') (by exact lin [_,k',sb] [(1,.a (.n 0) (.n 1),.v 1),(1,.a (.v 2) (.v 1),.a (.v 0) (.v 2))] 1 (.a (.n 0) (.n 1)) (.v 0) rfl z' (l_g _ _))),aY (ll (by exact li [sb,_,nb,_] [([1,3],[4]),([4],[2])] [1] [2] rfl hn (l_s hs)) (by exact lin [_,sa,na,sb,k] [(1,.a (.v 1) (.v 2),.v 3),(1,.a (.v 4) (.n 1),.v 2),(1,.v 3,.a (.v 0) (.a (.v 1) (.v 4)))] 1 (.a (.n 0) (.n 1)) (.v 0) rfl (l_s e) z (l_g _ _))),Nat.add_zero,Nat.add_zero]
   have q:=hk3 k (Nat.le_refl _) z
   simp only [bx,Bool.false_eq_true,if_false,decide_eq_false_iff_not,← bk (κ:=κ) eb] at q
   exact Int.le_of_lt (Int.not_le.mp q)
  ·obtain ⟨_,i,a,b,c⟩:=nV (κ:=κ) hp
   show _≤kAt κ ((arrOf st).extract (sa+k) sb) (((arrOf st).extract (sa+k) sb).size - 1)
   rw [ki (by exact li [sb,_,nb,_] [([1,3],[4]),([4],[2])] [1] [2] rfl hn (l_s hs)),aY (ll (by exact li [sb,_,nb,_] [([1,3],[4]),([4],[2])] [1] [2] rfl hn (l_s hs)) (by exact (l_d (lin [_,sa,na,sb,k] [(1,.a (.v 1) (.v 2),.v 3),(1,.a (.v 4) (.n 1),.v 2),(1,.v 3,.a (.v 0) (.a (.v 1) (.v 4)))] 1 (.n 1) (.v 0) rfl (l_s e) z (l_g _ _))))),show sa+k+(sb - (sa+k) - 1)=sb - 1 by exact l_a (lin [sa,k,_,_,sb,_] [(1,.v 4,.a (.v 3) (.n 1)),(1,.a (.v 5) (.a (.v 0) (.v 1)),.v 4),(1,.a (.v 2) (.n 1),.v 5)] 1 (.a (.a (.v 0) (.v 1)) (.v 2)) (.v 3) rfl (l_g _ _) (l_d (li [sa,k,sb,na] [([1,4],[3]),([2],[4])] [1,2] [3] rfl (l_s e) hk1)) (l_d (lin [_,sa,na,sb,k] [(1,.a (.v 1) (.v 2),.v 3),(1,.a (.v 4) (.n 1),.v 2),(1,.v 3,.a (.v 0) (.a (.v 1) (.v 4)))] 1 (.n 1) (.v 0) rfl (l_s e) z (l_g _ _)))) (lin [_,sa,k,_,sb,_] [(1,.a (.v 0) (.n 1),.v 4),(1,.v 4,.a (.v 5) (.a (.v 1) (.v 2))),(1,.v 5,.a (.v 3) (.n 1))] 1 (.v 0) (.a (.a (.v 1) (.v 2)) (.v 3)) rfl (l_d (lin [sb,sa,na] [(1,.a (.v 1) (.v 2),.v 0),(1,.a (.n 0) (.n 1),.v 2)] 1 (.n 1) (.v 0) rfl (l_s e) hna)) (l_g _ _) (l_g _ _)),← c]
   have q:=hk2' (i - sb) (by exact li [_,k',i,sb] [([3,0],[4,2]),([1,4],[3])] [1,0] [2] rfl b (l_d (a)))
   simp only [bx,if_true,decide_eq_true_eq] at q
   rw [show sb+(i - sb)=i by exact l_a (li [sb,_,i] [([2,1],[3])] [1,2] [3] rfl (l_d (a))) (li [i,sb,_] [([1],[3,2])] [1] [2,3] rfl (l_g _ _)),← bk (κ:=κ) ea] at q
   exact Int.le_of_lt q
 have J: ∀ r st',be st₂ st'→gr κ x y r→wpS (model prog w) A E s (jp r) Q st':=fun r st' hA g=>by
  have mg:=qw (xs:=arrOf st) (lo:=sa) (mid:=sb) (hi:=sb+nb) (p:=sa+k) (q:=sb+k') (by exact li [sa,k] [] [1] [1,2] rfl) (by exact li [sa,k,sb,na] [([1,4],[3]),([2,0],[4])] [1,2,0] [3] rfl (l_s e) z) (by exact lin [sb,k'] [(1,.a (.n 0) (.n 1),.v 1)] 1 (.a (.v 0) (.n 1)) (.a (.v 0) (.v 1)) rfl z') (by exact li [sb,k',nb] [([2],[3])] [1,2] [1,3] rfl hk1') (by exact li [sb,nb,_,_] [([1,2],[4]),([4],[3])] [1,2] [3] rfl hn (l_s hs)) s1 s2 b1 b2 g
  refine wpS_bind (wpS_modify (wpS_bind (wpS_get (wpS_pure ?_))))
  have f0:(failedOf st').isNone=true:=by rw [hA.failed,P.1.failed]; rfl
  have ea:arrOf st'=arrOf st:=hA.arr.trans P.2.2
  rw [← ea] at mg
  refine f0.symm▸h _ ⟨mg.perm.trans (by rw [ea]; exact hB.perm),hA.kind.trans P.1.kind,hA.failed.trans P.1.failed⟩ (hA.pend.trans P.2.1) (by rw [← ea]; exact mg)
 have hx:1≤x.size:=by show 1≤((arrOf st).extract (sa+k) sb).size; rw [ki (by exact li [sb,_,nb,_] [([1,3],[4]),([4],[2])] [1] [2] rfl hn (l_s hs))]; exact lin [_,sa,na,sb,k] [(1,.a (.v 1) (.v 2),.v 3),(1,.a (.v 4) (.n 1),.v 2),(1,.v 3,.a (.v 0) (.a (.v 1) (.v 4)))] 1 (.n 1) (.v 0) rfl (l_s e) z (l_g _ _)
 have hy:1≤y.size:=by show 1≤((arrOf st).extract sb (sb+k')).size; rw [ki (by exact li [sb,k',_,nb,_] [([1,4],[5]),([5],[3]),([2],[4])] [1,2] [3] rfl hn (l_s hs) hk1')]; exact lin [_,k',sb] [(1,.a (.n 0) (.n 1),.v 1),(1,.a (.v 2) (.v 1),.a (.v 0) (.v 2))] 1 (.n 1) (.v 0) rfl z' (l_g _ _)
 exact aB (fun _=>wpS_bind (lG hL P.1.kind M hx hy J)) fun _=>wpS_bind (lH hL P.1.kind M hx hy J)
end
end
noncomputable section
open PySem PyProof.Rows
noncomputable def Chain (κ:Keyed→Int) (xs:Array Keyed):List (Nat×Nat)→Nat→Nat→Prop
 | [],a,c=>a=c
 | t::r,a,c=>t.1=a∧0 < t.2∧Seg κ xs a (a+t.2)∧Chain κ xs r (a+t.2) c
noncomputable def prs (p:Array (Nat×Nat×Nat)):List (Nat×Nat):=p.toList.map fun t=>(t.1,t.2.1)
section
variable {prog:Program} {w:World} {A:Around} {E:Value→Shared→Prop} {s:Shared} {kd:SortKind} {κ:Keyed→Int} {a₀:Array Keyed} {xs ys:Array Keyed}
theorem Chain.len: ∀ {l:List (Nat×Nat)} {a c:Nat},Chain κ xs l a c→a+l.length≤c
 | [],_,_,h=>Nat.le_of_eq h
 | t::r,a,c,h=>by have:=Chain.len h.2.2.2; have:=h.2.1; rw [List.length_cons]; exact lin [a,_,c,_] [(1,.a (.a (.v 0) (.v 3)) (.v 1),.v 2),(1,.a (.n 0) (.n 1),.v 3)] 1 (.a (.v 0) (.a (.v 1) (.n 1))) (.v 2) rfl (by assumption) this
theorem Seg.keep {a c:Nat} (h:Seg κ xs a c) (e: ∀ k,a≤k→k < c→ys[k]?= xs[k]?):Seg κ ys a c:=fun i j hi hij hj=>by
 rw [aY (e i hi (Nat.lt_of_le_of_lt hij hj)),aY (e j (Nat.le_trans hi hij) hj)]; exact h i j hi hij hj
theorem Chain.keep: ∀ {l:List (Nat×Nat)} {a c:Nat},Chain κ xs l a c→(∀ k,a≤k→k < c→ys[k]?= xs[k]?)→Chain κ ys l a c
 | [],_,_,h,_=>h
 | t::r,a,c,h,e=>⟨h.1,h.2.1,h.2.2.1.keep fun k h1 h2=>e k h1 (Nat.lt_of_lt_of_le h2 (Nat.le_trans (Nat.le_add_right _ _) h.2.2.2.len)),Chain.keep h.2.2.2 fun k h1 h2=>e k (Nat.le_trans (Nat.le_add_right _ _) h1) h2⟩
theorem Chain.app: ∀ {l r:List (Nat×Nat)} {a b c:Nat},Chain κ xs l a b→Chain κ xs r b c→Chain κ xs (l++r) a c
 | [],_,_,_,_,h,q=>by cases h; exact q
 | _::_,_,_,_,_,h,q=>⟨h.1,h.2.1,h.2.2.1,Chain.app h.2.2.2 q⟩
theorem Chain.cut: ∀ {l r:List (Nat×Nat)} {a c:Nat},Chain κ xs (l++r) a c→∃ b,Chain κ xs l a b∧Chain κ xs r b c
 | [],_,a,_,h=>⟨a,rfl,h⟩
 | _::_,_,_,_,h=>let ⟨b,h1,h2⟩:=Chain.cut h.2.2.2; ⟨b,⟨h.1,h.2.1,h.2.2.1,h1⟩,h2⟩
theorem xE {α:Type} {l:List α} {i:Nat} (h:i+1 < l.length): ∃ l1 x y l2,l=l1++x::y::l2∧l1.length=i:=by
 refine ⟨l.take i,l[i],l[i+1],l.drop (i+2),?_,by rw [List.length_take]; exact Nat.min_eq_left (li [i,_] [([1,0,0],[2])] [1] [2] rfl h)⟩
 rw [← List.drop_eq_getElem_cons h,← List.drop_eq_getElem_cons (Nat.lt_of_succ_lt h),List.take_append_drop]
theorem je {st:SortSt} {i lo:Nat} {Q:Bool→SortSt→Prop} (hL:pA prog w A E s kd κ a₀) (hB:SB kd a₀ st) (hc:Chain κ (arrOf st) (prs (pendingOf st)) 0 lo) (hlo:lo≤a₀.size) (hi:i+1 < (pendingOf st).size)
  (h: ∀ st',SB kd a₀ st'→Chain κ (arrOf st') (prs (pendingOf st')) 0 lo→(pendingOf st').size+1=(pendingOf st).size→(∀ k,lo≤k→(arrOf st')[k]?= (arrOf st)[k]?)→Q true st'):
  wpS (model prog w) A E s (mergeAt' i) Q st:=by
 obtain ⟨l1,⟨sa,na,pw⟩,⟨sb,nb,pw'⟩,l2,el,h1⟩:=xE (l:=(pendingOf st).toList) (by rw [Array.length_toList]; exact hi)
 have hc':=hc
 rw [prs,el,List.map_append,List.map_cons,List.map_cons] at hc'
 obtain ⟨b,c1,e1,n1,g1,e2,n2,g2,c2⟩:=hc'.cut
 dsimp only at e1 n1 g1 e2 n2 g2 c2
 subst e1
 have hb:=c2.len
 have e3:(pendingOf st)[i]?= some (sa,na,pw):=by rw [← Array.getElem?_toList,el,List.getElem?_append_right (Nat.le_of_eq h1),h1,Nat.sub_self]; rfl
 have e4:(pendingOf st)[i+1]?= some (sb,nb,pw'):=by rw [← Array.getElem?_toList,el,List.getElem?_append_right (by exact li [_,i] [([1],[2])] [1] [2,0] rfl (l_e h1)),h1,Nat.add_sub_cancel_left]; rfl
 subst e2
 refine lI hL hB e3 e4 rfl n1 n2 (by exact li [sa,na,nb,_,lo,_] [([5],[4]),([1,2,3,6],[5])] [1,2,3] [4] rfl hlo hb) g1 g2 fun st' hB' hp hm=>?_
 have el':(pendingOf st').toList=l1++(sa,na+nb,pw)::l2:=by
  rw [hp,Array.toList_eraseIdxIfInBounds,Array.toList_setIfInBounds,el,← h1,List.set_append_right _ _ (Nat.le_refl _),Nat.sub_self,List.set_cons_zero,List.eraseIdx_append_of_length_le (Nat.le_succ _),show l1.length.succ - l1.length=1 by exact l_a (li [_,_] [([1,2],[2,0])] [1] [0] rfl (l_d (li [_] [] [1] [1,0] rfl ))) (li [_,_] [([2,0],[1,2])] [0] [1] rfl (l_g _ _))]; rfl
 have ha:=c1.len
 refine h st' hB' ?_ ?_ fun k hk=>hm.out k (.inr (by exact li [sa,na,nb,k,_,lo] [([1,2,3,5],[6]),([6],[4])] [1,2,3] [4] rfl hb hk))
 ·rw [prs,el',List.map_append,List.map_cons]
  exact (c1.keep fun k _ h2=>hm.out k (.inl h2)).app ⟨rfl,Nat.add_pos_left n1 _,by show Seg κ _ sa (sa+(na+nb)); rw [← Nat.add_assoc]; exact hm.seg,by show Chain κ _ _ (sa+(na+nb)) lo; rw [← Nat.add_assoc]; exact c2.keep fun k h1 _=>hm.out k (.inr h1)⟩
 ·rw [← Array.length_toList,← Array.length_toList,el',el,List.length_append,List.length_append]; rfl
theorem jF {X:Type} {n:Nat} {f:Nat→Option Unit×X→StateT SortSt Sem (ForInStep (Option Unit×X))} {st:SortSt} {Q:Option Unit×X→SortSt→Prop} (I:Nat→X→SortSt→Prop) (K:X→SortSt→Prop) {x:X} (h0:I 0 x st)
  (hstep: ∀ i x st (R:ForInStep (Option Unit×X)→SortSt→Prop),i < n→I i x st→(∀ x st,K x st→R (.done (none,x)) st)→(∀ x st,I (i+1) x st→R (.yield (none,x)) st)→wpS (model prog w) A E s (f i (none,x)) R st)
  (hend: ∀ x st,I n x st→K x st) (hk: ∀ x st,K x st→Q (none,x) st):wpS (model prog w) A E s (forIn [0:n] (none,x) f) Q st:=by
 refine wpS_forRange (fun i c st=>c.1=none∧I i c.2 st) ?_ ?_ ⟨rfl,h0⟩
 ·rintro i ⟨_,x⟩ st _ hi ⟨rfl,hI⟩
  exact hstep i x st _ hi hI hk fun x st q=>⟨rfl,q⟩
 ·rintro ⟨_,x⟩ st ⟨rfl,hI⟩
  exact hk x st (hend _ _ (by rwa [Nat.zero_max] at hI))
theorem sC (p:Array (Nat×Nat×Nat)) (a b c:Nat):prs (p.push (a,b,c))=prs p++[(a,b)]:=by rw [prs,Array.toList_push,List.map_append]; rfl
theorem qn (p:Array (Nat×Nat×Nat)):(prs p).length=p.size:=by rw [prs,List.length_map,Array.length_toList]
theorem oJ (p:Array (Nat×Nat×Nat)) (i:Nat) (f:Nat×Nat×Nat→Nat×Nat×Nat) (h: ∀ t,(f t).1=t.1∧(f t).2.1=t.2.1):prs (p.modify i f)=prs p:=by
 apply List.ext_getElem?
 intro k
 rw [prs,prs,List.getElem?_map,List.getElem?_map,Array.getElem?_toList,Array.getElem?_toList,Array.getElem?_modify]
 split
 ·cases p[k]? with
  | none=>rfl
  | some t=>exact congrArg some (Prod.ext (h t).1 (h t).2)
 ·rfl
theorem zx {c:Prop} [Decidable c] {n:Nat} (h: ¬ n≤1):(if c then n - 2 - 1 else n - 2)+1 < n:=by split<;>omega
theorem sd {st:SortSt} {Q:Unit→SortSt→Prop} (hL:pA prog w A E s kd κ a₀) (hB:SB kd a₀ st) (hp:pendingOf st= #[])
  (h: ∀ st',SB kd a₀ st'→Seg κ (arrOf st') 0 a₀.size→Q () st'):wpS (model prog w) A E s sortRuns' Q st:=by
 rw [sortRuns'_eq]
 refine wpS_bind (wpS_get ?_)
 extract_lets size minrun lo0
 have hs:size=a₀.size:=hB.size
 clear_value size minrun
 subst hs
 refine wpS_bind (jF (fun i lo st=>(SB kd a₀ st∧Chain κ (arrOf st) (prs (pendingOf st)) 0 lo)∧lo≤a₀.size∧i≤lo) (fun lo st=>(SB kd a₀ st∧Chain κ (arrOf st) (prs (pendingOf st)) 0 lo)∧lo=a₀.size)
  ⟨⟨hB,by rw [hp]; rfl⟩,Nat.zero_le _,Nat.le_refl _⟩ ?step (fun lo st q=>⟨q.1,Nat.le_antisymm q.2.1 q.2.2⟩) ?post)
 case step=>
  clear h hB hp
  intro i lo st R hi J hD hY
  refine aB (fun z=>wpS_pure (hD _ _ ⟨J.1,Nat.le_antisymm J.2.1 z⟩)) fun z=>wpS_bind (pI hL (Nat.le_of_eq (Nat.add_sub_cancel' J.2.1)) (Nat.sub_pos_of_lt (Nat.not_le.mp z)) J.1.1 fun m st₁ hB₁ hp₁ ha₁ hm1 hm2 sg=>?_)
  have c1:Chain κ (arrOf st₁) (prs (pendingOf st₁)) 0 lo:=by rw [hp₁]; exact J.1.2.keep fun k _ hk=>ha₁ k hk
  dsimp -zeta only
  extract_lets n1 jp force
  have T: ∀ n st,SB kd a₀ st→Chain κ (arrOf st) (prs (pendingOf st)) 0 lo→1≤n→n≤a₀.size - lo→Seg κ (arrOf st) lo (lo+n)→wpS (model prog w) A E s (jp () n) R st:=by
   clear c1 sg hm1 hm2 ha₁ hp₁ hB₁ st₁
   intro n st hB c1 h1 h2 sg
   refine wpS_bind (wpS_get ?_)
   extract_lets lo' jp2
   have U: ∀ st,SB kd a₀ st→Chain κ (arrOf st) (prs (pendingOf st)) 0 lo→Seg κ (arrOf st) lo (lo+n)→wpS (model prog w) A E s (jp2 ()) R st:=fun st hB c1 sg=>
    wpS_bind (wpS_modify (wpS_pure (hY _ _ ⟨⟨⟨hB.perm,hB.kind,hB.failed⟩,by show Chain κ (arrOf st) (prs ((pendingOf st).push (lo,n,0))) 0 (lo+n); rw [sC]; exact c1.app ⟨rfl,h1,sg,rfl⟩⟩,fj h2 J.2.1,Nat.le_trans (Nat.succ_le_succ J.2.2) (Nat.add_le_add_left h1 _)⟩)))
   clear_value jp2
   cases (pendingOf st).back? with
   | none=>exact U st hB c1 sg
   | some t=>
    refine wpS_bind (jF (fun _ _ st=>SB kd a₀ st∧Chain κ (arrOf st) (prs (pendingOf st)) 0 lo∧Seg κ (arrOf st) lo (lo+n)) (fun _ st=>SB kd a₀ st∧Chain κ (arrOf st) (prs (pendingOf st)) 0 lo∧Seg κ (arrOf st) lo (lo+n)) ⟨hB,c1,sg⟩ ?istep (fun _ _ q=>q) fun _ st q=>
     wpS_bind (wpS_modify (U _ ⟨q.1.perm,q.1.kind,q.1.failed⟩ (by
      have e:=oJ (pendingOf st) ((pendingOf st).size - 1) (fun x=>(x.1,x.2.1,power' a₀.size (2*t.1+t.2.1) (2*t.1+t.2.1+t.2.1+n) a₀.size)) fun _=>⟨rfl,rfl⟩
      have:=q.2.1
      rw [← e] at this
      exact this) q.2.2)))
    clear U sg c1 hB hD hY R
    intro _ _ st R _ q hD hY
    refine wpS_bind (wpS_get ?_)
    extract_lets p
    by_cases z:p.size > 1
    ·rw [if_pos z]
     cases p[p.size - 2]? with
     | none=>exact wpS_pure (hD _ _ q)
     | some t=>exact aB (fun _=>wpS_pure (hD _ _ q)) fun _=>wpS_bind (je hL q.1 q.2.1 J.2.1 (by show p.size - 2+1 < p.size; exact li [_,_] [([1,0,0],[2])] [1,0,0] [2] rfl (l_d (li [_] [([0,0],[1])] [0,0] [1] rfl z))) fun st' a b _ d=>wpS_pure (hY _ _ ⟨a,b,q.2.2.keep fun k hk _=>d k hk⟩))
    ·rw [if_neg z]
     exact wpS_pure (hD _ _ q)
  refine aB (fun z=>wpS_bind (wpS_lift (wpAny_rule ⟨rfl,wpS_bind (lJ hL (fj (Nat.min_le_left _ _) J.2.1) (Nat.le_min.mpr ⟨hm2,Nat.le_of_lt z⟩) hB₁ sg fun st₂ hB₂ hp₂ sg₂ ha₂=>?_)⟩))) fun z=>T _ _ hB₁ c1 hm1 hm2 sg
  exact T _ _ hB₂ (by rw [hp₂]; exact c1.keep fun k _ hk=>ha₂ k hk) (Nat.le_min.mpr ⟨Nat.le_trans hm1 hm2,Nat.le_trans hm1 (Nat.le_of_lt z)⟩) (Nat.min_le_left _ _) sg₂
 case post=>
  intro lo st q
  have e:=q.2
  subst e
  refine wpS_bind (jF (fun i _ st=>(SB kd a₀ st∧Chain κ (arrOf st) (prs (pendingOf st)) 0 a₀.size)∧(pendingOf st).size+i≤a₀.size) (fun _ st=>(SB kd a₀ st∧Chain κ (arrOf st) (prs (pendingOf st)) 0 a₀.size)∧(pendingOf st).size≤1)
   ⟨q.1,by have:=q.1.2.len; rw [qn,Nat.zero_add] at this; exact this⟩ ?fstep (fun _ st q=>⟨q.1,by have:=q.2; exact li [_,_] [([1,2],[2])] [1] [0] rfl q.2⟩) fun _ st q=>wpS_pure (h st q.1.1 ?_))
  ·clear h q
   intro i _ st R _ q hD hY
   refine wpS_bind (wpS_get (aB (fun z=>wpS_pure (hD _ _ ⟨q.1,z⟩)) fun z=>wpS_bind (je hL q.1.1 q.1.2 (Nat.le_refl _) (zx z) fun st' a b c _=>wpS_pure (hY _ _ ⟨⟨a,b⟩,by have:=q.2; exact li [_,i,_,_] [([4,2],[3]),([1,0],[4])] [1,2,0] [3] rfl q.2 (l_e c)⟩))))
  ·have q1:=q.1.2
   have q2:=q.2
   rw [← qn] at q2
   generalize prs (pendingOf st)=l at q1 q2
   match l,q1,q2 with
   | [],q1,_=>rw [← show 0=a₀.size from q1]; exact fun i j _ _ h=>absurd h (Nat.not_lt_zero _)
   | [t],q1,_=>rw [← show 0+t.2=a₀.size from q1.2.2.2]; exact q1.2.2.1
   | _::_::_,_,q2=>exact absurd q2 (by simp)
end
end
noncomputable section
open PySem PyProof.Rows
section
variable {prog:Program} {w:World} {A:Around} {E:Value→Shared→Prop} {s:Shared} {kd:SortKind} {κ:Value→Int}
noncomputable def Old (s:Shared) (a:Addr) (s':Shared):Prop:=∀ b o,b≠a→s.heap.get? b=some o→s'.heap.get? b=some o
theorem ek {vs:List Value} {xs:Array Keyed} (hp:xs.Perm (pairsOf vs)) (hs:Seg (fun p=>κ p.1) xs 0 (pairsOf vs).size):
  (xs.map (·.2)).toList.Perm vs∧(xs.map (·.2)).toList.Pairwise fun x y=>κ x≤κ y:=by
 have hl:xs.toList.Perm (vs.zip vs):=by rw [← pairsOf_toList]; exact Array.perm_iff_toList_perm.mp hp
 have hm: ∀ p,p∈xs.toList→p.1=p.2∧p.1∈vs:=fun p q=>mem_zip_self (hl.mem_iff.mp q)
 have e:(xs.map (·.2)).toList=xs.toList.map (·.1):=by rw [Array.toList_map]; exact List.map_congr_left fun p q=>(hm p q).1.symm
 rw [e]
 refine ⟨?_,?_⟩
 ·have:=hl.map Prod.fst
  rwa [List.map_fst_zip (Nat.le_refl _)] at this
 ·rw [List.pairwise_map,List.pairwise_iff_getElem]
  intro i j hi hj hij
  rw [Array.length_toList] at hi hj
  have:=hs i j (Nat.zero_le _) (Nat.le_of_lt hij) (by rw [← hp.size_eq]; exact hj)
  rwa [bk (κ:=fun p=>κ p.1) (Array.getElem?_eq_getElem hi),bk (κ:=fun p=>κ p.1) (Array.getElem?_eq_getElem hj)] at this
theorem kc {a:Addr} {vs:List Value} {n:Nat} {P:Fin→Shared→Prop} (ho:s.heap.get? a=some (seqObj "list" vs.toArray n)) (hlen:vs.length≤16000000)
  (hK: ∀ s',Old s a s'→2≤vs.length→wpAny (model prog w) A (keyKind' vs.toArray) (fun k s''=>k=kd∧s''=s') E s')
  (hL: ∀ s',Old s a s'→pA prog w A E s' kd (fun p=>κ p.1) (pairsOf vs))
  (h: ∀ out:Array Value,out.toList.Perm vs→(out.toList.Pairwise fun x y=>κ x≤κ y)→P (.done (.ret .none)) { s with heap:=sortedHeap s.heap a vs out }):
  wpAny (model prog w) A (Builtin.«list.sort» ⟨[.ref a],[]⟩) P E s:=by
 rw [list_sort_plain]
 have ha:a < s.heap.objs.size:=Heap.lt_size ho
 refine wpAny_bind (listItems_at ho rfl ?_)
 refine wpAny_bind (listUpdate_at ho rfl ?_ (by rw [sizeLine_eq]; simp; exact lin [_] [(1,.v 0,.n 16000000)] 1 (.v 0) (.n 16777216) rfl hlen))
 obtain ⟨e1,ho1⟩: ∃ e1,(s.heap.update a (Obj.mapSeq fun _=>#[])).get? a=some (seqObj "list" #[] e1):=⟨_,get?_update_seq ho (fun _=>#[])⟩
 refine wpAny_bind (seqEpoch_at ho1 rfl ?_)
 refine wpAny_bind (wpAny_newTuple ?_ (by rw [sizeLine_eq]; simp; exact lin [_] [(1,.v 0,.n 16000000)] 1 (.v 0) (.n 16777216) rfl hlen))
 refine wpAny_bind (wpAny_newList ?_)
 refine wpAny_holding ?_
 have old: ∀ (b:Addr),b < s.heap.objs.size→((((s.heap.update a (Obj.mapSeq fun _=>#[])).push (seqObj "tuple" vs.toArray 0)).push (seqObj "list" #[] 0))).get? b=(s.heap.update a (Obj.mapSeq fun _=>#[])).get? b:=fun b hb=>by
  rw [Heap.get?_push_ne _ _ _ (by rw [size_push',Heap.size_update]; exact Nat.ne_of_lt (Nat.lt_succ_of_lt hb)),Heap.get?_push_ne _ _ _ (by rw [Heap.size_update]; exact Nat.ne_of_lt hb)]
 have ho6:=(old a ha).trans ho1
 have hold:Old s a { s with heap:=((s.heap.update a (Obj.mapSeq fun _=>#[])).push (seqObj "tuple" vs.toArray 0)).push (seqObj "list" #[] 0)}:=fun b o hb hg=>
  (old b (Heap.lt_size hg)).trans (by rw [Heap.get?_update_ne _ _ _ _ hb]; exact hg)
 show wpAny (model prog w) A _ P E { s with heap:=((s.heap.update a (Obj.mapSeq fun _=>#[])).push (seqObj "tuple" vs.toArray 0)).push (seqObj "list" #[] 0)}
 dsimp only
 have fin: ∀ st':SortSt,(arrOf st').Perm (pairsOf vs)→Seg (fun p=>κ p.1) (arrOf st') 0 (pairsOf vs).size→
   P (.done (.ret .none)) { s with heap:=sortedHeap s.heap a vs ((arrOf st').map (·.2))}:=fun st' hp hs=>h _ (ek hp hs).1 (ek hp hs).2
 by_cases h2:vs.toArray.size < 2
 ·rw [if_pos h2,if_pos h2]
  refine wpAny_bind (wpAny_pure ?_)
  rw [StateT.run_pure]
  refine wpAny_bind (wpAny_pure ?_)
  dsimp only
  refine wpAny_bind (seqEpoch_at ho6 rfl ?_)
  refine wpAny_bind (listUpdate_at ho6 rfl ?_ (hsz2:=by rw [Array.size_map]; show (pairsOf vs).size≤_; rw [pairsOf_size,sizeLine_eq]; exact lin [_] [(1,.v 0,.n 16000000)] 1 (.v 0) (.a (.n 16777216) (.n 1)) rfl hlen))
  simp only [bne_self_eq_false,Bool.false_eq_true,if_false]
  refine wpAny_pure (fin (SortSt.mk' general' (vs.toArray.zip vs.toArray) #[] 7 none) (Array.Perm.refl _) ?_)
  intro i j _ hij hj
  have:i=j:=by rw [pairsOf_size] at hj; rw [List.size_toArray] at h2; exact l_a (hij) (li [j,i,_] [([3,0],[0,0]),([1,0],[3])] [1] [2] rfl h2 hj)
  subst this; exact Int.le_refl _
 ·rw [if_neg h2,if_neg h2]
  refine wpAny_bind (wpAny_mono (hK _ hold (by rw [List.size_toArray] at h2; exact (l_t h2))) ?_ fun _ _ e=>e)
  rintro kd _ ⟨rfl,rfl⟩
  refine wpAny_bind (wpAny_mono (sd (a₀:=pairsOf vs) (st:=SortSt.mk' kd (vs.toArray.zip vs.toArray) #[] 7 none)
   (Q:=fun _ st'=>(arrOf st').Perm (pairsOf vs)∧failedOf st'=none∧Seg (fun p=>κ p.1) (arrOf st') 0 (pairsOf vs).size)
   (hL _ hold) ⟨Array.Perm.refl _,rfl,rfl⟩ rfl fun st' a1 a2=>⟨a1.perm,a1.failed,a2⟩) ?_ fun _ _ e=>e)
  rintro ⟨⟨⟩,st'⟩ s' ⟨rfl,hp,hf,hs⟩
  dsimp only
  refine wpAny_bind (seqEpoch_at ho6 rfl ?_)
  refine wpAny_bind (listUpdate_at ho6 rfl ?_ (hsz2:=by refine Nat.le_trans (Nat.le_of_eq ((Array.size_map ..).trans (hp.size_eq.trans (pairsOf_size _)))) ?_; rw [sizeLine_eq]; exact lin [_] [(1,.v 0,.n 16000000)] 1 (.v 0) (.a (.n 16777216) (.n 1)) rfl hlen))
  rw [hf]
  simp only [bne_self_eq_false,Bool.false_eq_true,if_false]
  exact wpAny_pure (fin st' hp hs)
theorem pX {x:Value} {G:List Value→Prop} {Q:Value→Shared→Prop}
  (hc: ∀ R:List Value→Shared→Prop,(∀ vs h' tk,(∀ b o,s.heap.get? b=some o→h'.get? b=some o)→G vs→R vs { s with heap:=h',toks:=tk })→wpAny (model prog w) A.in1 (collect x) R E s)
  (hlen: ∀ vs,G vs→vs.length≤16000000)
  (hK: ∀ vs,G vs→∀ s',(∀ b o,s.heap.get? b=some o→s'.heap.get? b=some o)→2≤vs.length→wpAny (model prog w) A.in1.in1 (keyKind' vs.toArray) (fun k s''=>k=kd∧s''=s') E s')
  (hL: ∀ vs,G vs→∀ s',(∀ b o,s.heap.get? b=some o→s'.heap.get? b=some o)→pA prog w A.in1.in1 E s' kd (fun p=>κ p.1) (pairsOf vs))
  (h: ∀ (vs:List Value) (out:Array Value) h' tk a,G vs→out.toList.Perm vs→(out.toList.Pairwise fun x y=>κ x≤κ y)→(∀ b o,s.heap.get? b=some o→h'.get? b=some o)→s.heap.get? a=none→(∃ e,h'.get? a=some (seqObj "list" out e))→Q (.ref a) { s with heap:=h',toks:=tk }):
  wpAny (model prog w) A (call (.builtin "sorted") [x]) Q E s:=by
 refine Calls.call_function_entry kind_sorted plain_sorted entry_sorted (args_sorted1 _) ?_
 unfold Builtin.«sorted»
 refine wpAny_bind (m:=checkCount "sorted" 1 1 _) (wpAny_pure ?_)
 refine wpAny_bind (hc _ fun vs h' tk kp g=>?_)
 have hl:=hlen vs g
 refine wpAny_bind (wpAny_newList ?_ (by rw [sizeLine_eq]; exact lin [_] [(1,.v 0,.n 16000000)] 1 (.v 0) (.n 16777216) rfl hl))
 have hoL:(h'.push (seqObj "list" vs.toArray 0)).get? h'.objs.size=some (seqObj "list" vs.toArray 0):=Heap.get?_push_size _ rfl
 have old: ∀ b o,s.heap.get? b=some o→b≠h'.objs.size∧(h'.push (seqObj "list" vs.toArray 0)).get? b=some o:=fun b o hb=>
  ⟨Nat.ne_of_lt (Heap.lt_size (kp b o hb)),Heap.get?_push_of_some _ (kp b o hb)⟩
 show wpAny _ _ _ _ _ { s with heap:=h'.push (seqObj "list" vs.toArray 0),toks:=tk }
 refine wpAny_bind (wpAny_holding (wpAny_call_entry slot_list_sort ⟨_,hoL,rfl⟩ entry_list_sort (kc (κ:=κ) hoL hl (fun s' q=>hK vs g s' fun b o hb=>q b o (old b o hb).1 (old b o hb).2) (fun s' q=>hL vs g s' fun b o hb=>q b o (old b o hb).1 (old b o hb).2) fun out a1 a2=>⟨_,rfl,?_⟩) (args_list_sort _)))
 refine wpAny_pure ⟨_,rfl,h vs out _ _ _ g a1 a2 (fun b o hb=>?_) ?_ (sortedHeap_at hoL)⟩
 ·rw [sortedHeap_old (old b o hb).1 (Heap.lt_size (old b o hb).2)]; exact (old b o hb).2
 ·cases e:s.heap.get? h'.objs.size with
  | none=>rfl
  | some o=>exact absurd (Heap.lt_size (kp _ _ e)) (Nat.lt_irrefl _)
end
end
end Mine
set_option maxRecDepth 100000
namespace Mine
noncomputable section
open PySem PySem.W PyProof.Rows
noncomputable def qV (K:Frag) (D:Addr):Bool:=
 findIn K (.ref D) "__getattribute__" == some (some (.builtin "BaseException.__getattribute__")) && findIn K (.ref D) "__getattr__" == some none && (clsIn K D).isSome &&
 findIn K (.ref D) "__class__" == some (some (.builtin "object.__class__")) && specialIn K (.builtin "object.__class__") "__get__" == some (some (.builtin "getset_descriptor.__get__")) && takesIn K (.builtin "object.__class__") == some true &&
 mroIn K D (.type "object") == some true && subIn K (.ref D) (.type "BaseException") == some true
section
variable {prog:Program} {w:World} {A:Around} {E:Value→Shared→Prop} {s:Shared} {K:Frag} {x D:Addr} {ox:Obj}
noncomputable def eN (K:Frag) (D C:Addr):Bool:=(clsIn K C).isSome && instIn K (.ref C) (.type "tuple") == some false && subIn K (.ref C) (.type "BaseException") == some true && subIn K (.ref D) (.ref C) == some true
theorem mA {M:Model} {C:Addr} {Q:Bool→Shared→Prop} (X:K.In s.heap) (I:InstAt s.heap x ox D none) (e:eN K D C=true) (h:Q true s):wpAny M A (excMatches (.ref x) (.ref C)) Q E s:=by
 simp only [eN,Bool.and_eq_true,beq_iff_eq] at e
 obtain ⟨⟨⟨e0,e1⟩,e2⟩,e3⟩:=e
 have L0:=looks_instIn (M:=M) X e1
 have L1:=looks_subIn (M:=M) X e2
 have L2:=looks_subIn (M:=M) X e3
 have L3:=I.type (M:=M)
 have L4:Looks M s.heap (isType (.ref C)) true:=by
  obtain ⟨cdD,hcD⟩:=Option.isSome_iff_exists.mp e0
  unfold clsIn at hcD
  split at hcD
  ·rename_i c' d' cd' sl' ho
   intro A' Q' E' s' k q
   unfold isType loadHead
   exact wpAny_bind (wpAny_loadPart (k _ _ (X _ _ ho)) (wpAny_pure q))
  ·cases hcD
 obtain ⟨hh,gg,d,t,os⟩:=s
 unfold excMatches
 with_reducible refine wpAny_bind ?_
 refine L0.at ?_
 simp only [Bool.false_eq_true,if_false]
 repeat (any_goals (first | assumption | lk))
end
end
noncomputable section
open PySem
inductive V where
 | none
 | bool (b:Bool)
 | int (i:Int)
 | str (s:List Nat)
 | tup (vs:List V)
 | lst (vs:List V)
 | rng (a b c:Int)
 | loc (i:Nat)
inductive BN where
 | len | str | int | range | list | sorted | max | min
inductive MN where
 | append | startswith | pop | index | split | join | get | extend
noncomputable def BN.name (f:BN):String:=BN.rec "len" "str" "int" "range" "list" "sorted" "max" "min" f
noncomputable def MN.name (f:MN):String:=MN.rec "append" "startswith" "pop" "index" "split" "join" "get" "extend" f
inductive HO where
 | list (vs:List V)
 | inst (c:String)
 | obj (j:Nat)
 | attrs (fs:List (String×V))
 | dictS (kvs:List (List Nat×V))
 | dead
structure St where
 s:String→Option V
 H:List HO
noncomputable def St.set (st:St) (x:String) (v:V):St:=⟨fun y=>if y=x then some v else st.s y,st.H⟩
noncomputable def St.unset (st:St) (x:String):St:=⟨fun y=>if y=x then .none else st.s y,st.H⟩
inductive Flow where
 | next | brk | cont
 | ret (v:V)
set_option genCtorIdx false in
set_option genInjectivity false in
mutual
inductive E where
 | stuck | omit
 | none | bool (b:Bool) | int (i:Int) | str (s:List Nat)
 | var (x:String)
 | glo (x:String)
 | tup (es:Es)
 | list (es:Es)
 | bin (op:Operator) (a b:E)
 | neg (a:E)
 | not (a:E)
 | and (es:Es)
 | or (es:Es)
 | cmp (op:CmpOp) (a b:E)
 | cmp2 (op op':CmpOp) (a b c:E)
 | idx (a i:E)
 | slc (a lo hi:E)
 | call (f:String) (es:Es)
 | blt (f:BN) (es:Es)
 | isi (a:E) (t:String)
 | mth (m:MN) (a:E) (es:Es)
 | comp (elt:E) (x:String) (it:E)
 | compIf (elt:E) (x:String) (it:E) (c:E)
 | compX (elt:E) (x:String) (it:E)
 | isiS (a:E)
 | attr (a:E) (x:String)
 | mcall (f m:String) (a:E) (es:Es)
 | make (es:Es)
 | dict
inductive Es where
 | nil
 | cons (e:E) (es:Es)
end
set_option genCtorIdx false in
set_option genInjectivity false in
mutual
inductive S where
 | stuck
 | ex (e:E)
 | asg (x:String) (e:E)
 | asgSub (o i e:E)
 | ite (c:E) (t f:Ss)
 | whl (c:E) (b:Ss)
 | for_ (x:String) (it:E) (b:Ss)
 | ret (e:E)
 | cont
 | pass
 | raise (cls:String)
 | try_ (b:Ss) (c:String) (x:Option String) (h:Ss)
 | asgAttr (o:E) (x:String) (e:E)
inductive Ss where
 | nil
 | cons (s:S) (ss:Ss)
end
noncomputable def E.isOmit:E→Bool
 | .omit=>true
 | _=>false
noncomputable def V.flat:V→Bool
 | .none=>true
 | .bool _=>true
 | .int _=>true
 | .str _=>true
 | _=>false
noncomputable def V.parts:V→Option (List V)
 | .tup vs=>some vs
 | .lst vs=>some vs
 | _=>.none
noncomputable def pl:Nat→V→Bool
 | 0,v=>v.flat
 | n+1,v=>v.flat || v.parts.any fun vs=>vs.all (pl n)
mutual
noncomputable def pF:V→PyData
 | .none=>.none
 | .bool b=>.bool b
 | .int i=>.int i
 | .str cs=>.str ⟨cs.toArray⟩
 | .tup vs=>.tuple (jO vs)
 | .lst vs=>.list (jO vs)
 | .rng _ _ _=>.none
 | .loc _=>.none
noncomputable def jO:List V→List PyData
 | []=>[]
 | v::vs=>pF v::jO vs
end
noncomputable def eqB (a b:V):Bool:=PyData.eqv (pF a) (pF b)
noncomputable def V.num:V→Option Int
 | .int i=>some i
 | _=>.none
noncomputable def V.txt:V→Option (List Nat)
 | .str s=>some s
 | _=>.none
noncomputable def V.tupP:V→Option (List V)
 | .tup vs=>some vs
 | _=>.none
mutual
noncomputable def leV:V→V→Bool
 | .int i=>fun b=>b.num.any fun j=>decide (i≤j)
 | .str s=>fun b=>b.txt.any fun t=>decide (s≤t)
 | .tup vs=>fun b=>b.tupP.any fun us=>EX vs us
 | .none=>fun _=>false
 | .bool _=>fun _=>false
 | .lst _=>fun _=>false
 | .rng _ _ _=>fun _=>false
 | .loc _=>fun _=>false
noncomputable def EX:List V→List V→Bool
 | []=>fun _=>true
 | v::vs=>fun us=>us.head?.any fun u=>if eqB v u then EX vs us.tail else leV v u
end
noncomputable def ar (H:List HO):Prop:=∀ c:String,HO.inst c ∉ H
inductive fY (H:List HO):V→List V→Prop
 | lst (vs:List V):fY H (.lst vs) vs
 | loc {i:Nat} {vs:List V}:H[i]?= some (.list vs)→fY H (.loc i) vs
inductive mU (H:List HO):V→V→Prop
 | self (v:V):mU H v v
 | loc {i:Nat} {vs:List V}:H[i]?= some (.list vs)→mU H (.loc i) (.lst vs)
noncomputable def cB (a b c:Int):List Int:=(List.range ((b - a+c - 1) / c).toNat).map fun (k:Nat)=>a+c*(k:Int)
inductive du:V→List V→Prop
 | rng {a b c:Int}:(0 < c∧c≤1000000)→(-1000000≤a∧a≤1000000)→(-1000000≤b∧b≤1000000)→du (.rng a b c) ((cB a b c).map .int)
 | lst (vs:List V):du (.lst vs) vs
 | str (cs:List Nat):du (.str cs) (cs.map fun c=>.str [c])
noncomputable def kS (vs:List V) (st:St) (Q:V→St→Prop):Prop:=Q (.lst vs) st∨Q (.loc st.H.length) ⟨st.s,st.H++[.list vs]⟩
noncomputable def GQ (v:V) (st:St) (Q:V→St→Prop):Prop:=Q v st∨∃ (i:Nat) (vs:List V),v=.loc i∧st.H[i]?= some (.list vs)∧Q (.lst vs) ⟨st.s,st.H.set i .dead⟩
inductive Bin:Operator→V→V→V→Prop
 | add (a b:Int):Bin .Add (.int a) (.int b) (.int (a+b))
 | sub (a b:Int):Bin .Sub (.int a) (.int b) (.int (a - b))
 | mul {a b:Int}:a.natAbs < 2 ^ 63∨b.natAbs < 2 ^ 63→Bin .Mult (.int a) (.int b) (.int (a*b))
 | div {a b:Int}:0 < b→b < 2 ^ 29→Bin .FloorDiv (.int a) (.int b) (.int (a / b))
 | mod {a b:Int}:0 < b→Bin .Mod (.int a) (.int b) (.int (a % b))
 | pow {a b:Int}:0≤b→b≤1000→a.natAbs < 2 ^ 63→Bin .Pow (.int a) (.int b) (.int (a ^ b.toNat))
 | cat {a b:List Nat}:a.length+b.length≤16000000→Bin .Add (.str a) (.str b) (.str (a++b))
inductive IsR:V→V→Bool→Prop
 | nn:IsR .none .none true
 | xn {v:V}:v≠.none→IsR v .none false
inductive InR (H:List HO):V→V→Bool→Prop
 | sign (c:Nat) (cs:List Nat):InR H (.str [c]) (.str cs) (decide (c∈cs))
 | keyS {s:List Nat} {i:Nat} {kvs:List (List Nat×V)}:H[i]?= some (.dictS kvs)→InR H (.str s) (.loc i) (decide (s∈kvs.map (·.1)))
inductive Cmp (H:List HO):CmpOp→V→V→Bool→Prop
 | lt (a b:Int):Cmp H .Lt (.int a) (.int b) (decide (a < b))
 | le (a b:Int):Cmp H .LtE (.int a) (.int b) (decide (a≤b))
 | gt (a b:Int):Cmp H .Gt (.int a) (.int b) (decide (b < a))
 | ge (a b:Int):Cmp H .GtE (.int a) (.int b) (decide (b≤a))
 | geS (a b:List Nat):Cmp H .GtE (.str a) (.str b) (decide (b≤a))
 | eq {a b a' b':V}:mU H a a'→mU H b b'→pl 6 a'=true→pl 6 b'=true→Cmp H .Eq a b (eqB a' b')
 | ne {a b a' b':V}:mU H a a'→mU H b b'→pl 6 a'=true→pl 6 b'=true→Cmp H .NotEq a b (!eqB a' b')
 | is {a b:V} {r:Bool}:IsR a b r→Cmp H .Is a b r
 | isNot {a b:V} {r:Bool}:IsR a b r→Cmp H .IsNot a b (!r)
 | inn {a b:V} {r:Bool}:InR H a b r→Cmp H .In a b r
 | nin {a b:V} {r:Bool}:InR H a b r→Cmp H .NotIn a b (!r)
inductive Idx (H:List HO):V→V→V→Prop
 | seq {a v:V} {xs:List V} {i:Int}:fY H a xs→0≤i→xs[i.toNat]?= some v→Idx H a (.int i) v
 | tup {v:V} {xs:List V} {i:Int}:0≤i→xs[i.toNat]?= some v→Idx H (.tup xs) (.int i) v
 | str {cs:List Nat} {c:Nat} {i:Int}:0≤i→cs[i.toNat]?= some c→Idx H (.str cs) (.int i) (.str [c])
 | keyS {s:List Nat} {v:V} {i:Nat} {kvs:List (List Nat×V)}:H[i]?= some (.dictS kvs)→kvs.lookup s=some v→Idx H (.loc i) (.str s) v
noncomputable def jU {α:Type} [DecidableEq α] (k:α) (v:V) (kvs:List (α×V)):List (α×V):=if k∈kvs.map (·.1) then kvs.map fun p=>if p.1=k then (p.1,v) else p else kvs++[(k,v)]
noncomputable def rV (x:String) (v:V):List (String×V)→List (String×V)
 | []=>[(x,v)]
 | p::r=>if p.1=x then (p.1,v)::r else p::rV x v r
noncomputable def bf (sep:List Nat):List (List Nat)→List Nat
 | []=>[]
 | p::ps=>p++ps.flatMap fun q=>sep++q
noncomputable def xx (cs:List Nat):Nat:=cs.foldl (fun a c=>a*10+(c - 48)) 0
noncomputable def DV (cs:List Nat):Prop:=∀ c∈cs,48≤c∧c≤57
noncomputable def cut (n:Nat) (i:Int):Nat:=if i < 0 then (i+n).toNat else min i.toNat n
noncomputable def slice {α:Type} (xs:List α) (lo hi:Nat):List α:=(xs.take hi).drop lo
noncomputable def gk (n:Nat) (l:Option Int):Nat:=l.elim 0 (cut n)
noncomputable def gF (n:Nat) (h:Option Int):Nat:=h.elim n (cut n)
noncomputable def wK (v:V) (l h:Option Int) (st:St) (Q:V→St→Prop):Prop:=
 (∃ cs,v=.str cs∧Q (.str (slice cs (gk cs.length l) (gF cs.length h))) st)∨∃ xs,fY st.H v xs∧kS (slice xs (gk xs.length l) (gF xs.length h)) st Q
inductive rX (H:List HO):V→String→Prop
 | int (i:Int):rX H (.int i) "int"
 | bool (b:Bool):rX H (.bool b) "bool"
 | str (s:List Nat):rX H (.str s) "str"
 | none:rX H .none "NoneType"
 | tup (vs:List V):rX H (.tup vs) "tuple"
 | seq {v:V} {vs:List V}:fY H v vs→rX H v "list"
noncomputable def rT (X T:String):Bool:=X == T || (X == "bool" && T == "int")
noncomputable def aw (i:Int):List Nat:=(toString i).toList.map Char.toNat
inductive zZ (H:List HO):V→Nat→Prop
 | str (s:List Nat):zZ H (.str s) s.length
 | tup (vs:List V):zZ H (.tup vs) vs.length
 | seq {v:V} {vs:List V}:fY H v vs→zZ H v vs.length
inductive Blt (H:List HO):BN→List V→V→Prop
 | len {v:V} {n:Nat}:zZ H v n→Blt H .len [v] (.int n)
 | str {i:Int}:i.natAbs < 10 ^ 100→Blt H .str [.int i] (.str (aw i))
 | int (b:Bool):Blt H .int [.bool b] (.int (if b then 1 else 0))
 | intT {cs:List Nat}:DV cs→cs≠[]→cs.length≤300→Blt H .int [.str cs] (.int (xx cs))
 | intN {cs:List Nat}:DV cs→cs≠[]→cs.length≤300→Blt H .int [.str (45::cs)] (.int (-(xx cs:Int)))
 | max1 {v:V} {ns:List Int} {m:Int}:ar H→fY H v (ns.map .int)→m∈ns→(∀ n∈ns,n≤m)→Blt H .max [v] (.int m)
 | max2 (a b:Int):ar H→Blt H .max [.int a,.int b] (.int (max a b))
 | min2 (a b:Int):ar H→Blt H .min [.int a,.int b] (.int (min a b))
 | range1 (b:Int):Blt H .range [.int b] (.rng 0 b 1)
 | range2 (a b:Int):Blt H .range [.int a,.int b] (.rng a b 1)
inductive gM:List V→Prop
 | txts {xs:List V}:(∀ v∈xs,∃ s,v=.str s)→gM xs
 | duos {xs:List V}:(∀ v∈xs,∃ i j,v=.tup [.int i,.int j])→gM xs
inductive Aa (H:List HO):BN→List V→List V→Prop
 | list {v:V} {xs:List V}:fY H v xs→Aa H .list [v] xs
 | listS {i:Nat} {kvs:List (List Nat×V)}:ar H→H[i]?= some (.dictS kvs)→Aa H .list [.loc i] (kvs.map fun p=>.str p.1)
 | sorted {v:V} {xs ys:List V}:fY H v xs→gM xs→xs.length≤1000000→ys.Perm xs→(ys.Pairwise fun a b=>leV a b=true)→Aa H .sorted [v] ys
noncomputable def Fi (f:BN) (vs:List V) (st:St) (Q:V→St→Prop):Prop:=(∃ v,Blt st.H f vs v∧Q v st)∨∃ xs,Aa st.H f vs xs∧kS xs st Q
inductive R where
 | ok (v:V)
 | err (c:String)
abbrev Orc:=String→List V→List HO→R→List HO→Prop
inductive Rcv (H:List HO):V→MN→Prop
 | append {v:V} {vs:List V}:fY H v vs→Rcv H v .append
 | starts (s:List Nat):Rcv H (.str s) .startswith
 | pop {v:V} {vs:List V}:fY H v vs→Rcv H v .pop
 | index {v:V} {vs:List V}:fY H v vs→Rcv H v .index
 | extend {v:V} {vs:List V}:fY H v vs→Rcv H v .extend
 | split (s:List Nat):Rcv H (.str s) .split
 | join (s:List Nat):Rcv H (.str s) .join
 | get {i:Nat} {kvs:List (List Nat×V)}:H[i]?= some (.dictS kvs)→Rcv H (.loc i) .get
inductive Mth (H:List HO):MN→V→List V→V→Prop
 | starts (a b:List Nat):Mth H .startswith (.str a) [.str b] (.bool (b.isPrefixOf a))
 | index {o:V} {ss:List (List Nat)} {s:List Nat} {i:Nat}:fY H o (ss.map .str)→ss[i]?= some s→(∀ j,j < i→ss[j]?≠some s)→Mth H .index o [.str s] (.int i)
 | join {sep:List Nat} {v:V} {ss:List (List Nat)}:fY H v (ss.map .str)→(bf sep ss).length+(ss.length+1)*(sep.length+1)≤16000000→Mth H .join (.str sep) [v] (.str (bf sep ss))
 | get {i:Nat} {kvs:List (List Nat×V)} {s:List Nat} {d:V}:H[i]?= some (.dictS kvs)→Mth H .get (.loc i) [.str s,d] ((kvs.lookup s).getD d)
inductive DT:MN→V→List V→List V→Prop
 | split {x:List Nat} {c:Nat} {ps:List (List Nat)}:x.length≤16000000→ps≠[]→bf [c] ps=x→(∀ p∈ps,c ∉ p)→DT .split (.str x) [.str [c]] (ps.map .str)
noncomputable def EW (m:MN) (o:V) (vs:List V) (st:St) (Q:V→St→Prop):Prop:=
 (∃ v,Mth st.H m o vs v∧Q v st)∨
 (∃ (i:Nat) (xs:List V) (v:V),(m=.append∧o=.loc i∧vs=[v])∧st.H[i]?= some (.list xs)∧xs.length < 16000000∧Q .none ⟨st.s,st.H.set i (.list (xs++[v]))⟩)∨
 (∃ (i:Nat) (xs:List V) (v:V),(m=.pop∧o=.loc i∧vs=[])∧st.H[i]?= some (.list (xs++[v]))∧Q v ⟨st.s,st.H.set i (.list xs)⟩)∨
 (∃ xs,DT m o vs xs∧kS xs st Q)∨
 (∃ (i:Nat) (xs ys:List V),(m=.extend∧o=.loc i∧vs=[.lst ys])∧st.H[i]?= some (.list xs)∧xs.length+ys.length < 16000000∧Q .none ⟨st.s,st.H.set i (.list (xs++ys))⟩)∨
 False
noncomputable def fG (f:V→St→(List V→St→Prop)→Prop):List V→List V→St→(List V→St→Prop)→Prop
 | []=>fun acc st K=>K acc st
 | v::r=>fun acc st K=>f v st fun a st'=>fG f r (acc++a) st' K
noncomputable def DI (f:V→St→(List V→St→Prop)→Prop) (vi:V) (st:St) (Q:V→St→Prop):Prop:=
 (∃ items,du vi items∧fG f items [] st fun out st=>kS out st Q)∨
 ∃ (i:Nat) (items:List V),vi=.loc i∧st.H[i]?= some (.list items)∧fG f items [] ⟨st.s,st.H.set i .dead⟩ fun out st'=>kS out st' fun v st''=>st''.H[i]?= some .dead∧Q v ⟨st''.s,st''.H.set i (.list items)⟩
noncomputable def wg (Q:Flow→St→Prop) (K:St→Prop) (f:Flow) (st:St):Prop:=(f=.next∧K st)∨(f=.cont∧K st)∨(f=.brk∧Q .next st)∨∃ v,f=.ret v∧Q (.ret v) st
noncomputable def sW (f:V→St→(Flow→St→Prop)→Prop):List V→St→(Flow→St→Prop)→Prop
 | []=>fun st Q=>Q .next st
 | v::r=>fun st Q=>f v st (wg Q fun st'=>sW f r st' Q)
noncomputable def mZ (t:St→(Bool→St→Prop)→Prop) (f:St→(Flow→St→Prop)→Prop):Nat→St→(Flow→St→Prop)→Prop
 | 0=>fun _ _=>False
 | n+1=>fun st Q=>t st fun b st'=>(b=true∧f st' (wg Q fun st''=>mZ t f n st'' Q))∨(b=false∧Q .next st')
noncomputable def walkW {β:Type} (v:V) (st:St) (loop:List V→St→(β→St→Prop)→Prop) (K:β→St→Prop):Prop:=
 (∃ items,du v items∧loop items st K)∨
 False
inductive DW (H:List HO):V→String→Prop
 | mk {i:Nat} {c:String}:H[i]?= some (.inst c)→DW H (.loc i) c
noncomputable def eC (h c:String):Bool:=h == c || h == "RoomError"
inductive eF (H:List HO):V→Nat→List (String×V)→Prop
 | mk {i j:Nat} {fs:List (String×V)}:H[i]?= some (.obj j)→H[j]?= some (.attrs fs)→eF H (.loc i) j fs
mutual
noncomputable def low (n:Nat):V→Prop
 | .loc i=>i < n
 | .tup vs=>lows n vs
 | .lst vs=>lows n vs
 | _=>True
noncomputable def lows (n:Nat):List V→Prop
 | []=>True
 | v::vs=>low n v∧lows n vs
end
noncomputable def lowO (n:Nat):HO→Prop
 | .list vs=>lows n vs
 | .obj j=>j < n
 | .attrs fs=>lows n (fs.map (·.2))
 | .dictS kvs=>lows n (kvs.map (·.2))
 | _=>True
noncomputable def BQ (n:Nat):Flow→Prop
 | .ret v=>low n v
 | _=>True
open Classical in
noncomputable def St.cut (st:St) (n:Nat):St:=⟨fun y=>(st.s y).bind fun v=>if low n v then some v else .none,st.H.take n⟩
noncomputable def St.exc (st:St) (c:String) (x:Option String):St:=x.elim ⟨st.s,st.H++[.inst c]⟩ fun y=>(St.mk st.s (st.H++[.inst c])).set y (.loc st.H.length)
noncomputable def St.unx (st:St) (x:Option String):St:=x.elim st st.unset
section
variable (Φ:Orc) (G:String→Option V)
mutual
noncomputable def wE:E→St→(V→St→Prop)→(String→St→Prop)→Prop
 | .stuck=>fun _ _ _=>False
 | .omit=>fun _ _ _=>False
 | .none=>fun st Q _=>Q .none st
 | .bool b=>fun st Q _=>Q (.bool b) st
 | .int i=>fun st Q _=>Q (.int i) st
 | .str s=>fun st Q _=>Q (.str s) st
 | .var x=>fun st Q _=>∃ v,st.s x=some v∧GQ v st Q
 | .glo x=>fun st Q _=>∃ v,G x=some v∧Q v st
 | .tup es=>fun st Q X=>wEs es st (fun vs st=>Q (.tup vs) st) X
 | .list es=>fun st Q X=>wEs es st (fun vs st=>kS vs st Q) X
 | .bin op a b=>fun st Q X=>wE a st (fun va st=>wE b st (fun vb st=>(∃ v,Bin op va vb v∧Q v st)∨
   ∃ xs ys,op=.Add∧fY st.H va xs∧fY st.H vb ys∧xs.length+ys.length≤16000000∧kS (xs++ys) st Q) X) X
 | .neg a=>fun st Q X=>wE a st (fun v st=>∃ i,v=.int i∧Q (.int (-i)) st) X
 | .not a=>fun st Q X=>wE a st (fun v st=>∃ b,v=.bool b∧Q (.bool (!b)) st) X
 | .and es=>fun st Q X=>wJ es st Q X
 | .or es=>fun st Q X=>wOr es st Q X
 | .cmp op a b=>fun st Q X=>wE a st (fun va st=>wE b st (fun vb st=>∃ r,Cmp st.H op va vb r∧Q (.bool r) st) X) X
 | .cmp2 op op' a b c=>fun st Q X=>wE a st (fun va st=>wE b st (fun vb st=>∃ r,Cmp st.H op va vb r∧
   ((r=true∧wE c st (fun vc st=>∃ r',Cmp st.H op' vb vc r'∧Q (.bool r') st) X)∨(r=false∧Q (.bool false) st))) X) X
 | .idx a i=>fun st Q X=>wE a st (fun va st=>wE i st (fun vi st=>∃ v,Idx st.H va vi v∧Q v st) X) X
 | .slc a lo hi=>fun st Q X=>wE a st (fun va st=>
   (lo.isOmit=true∧((hi.isOmit=true∧wK va .none .none st Q)∨(hi.isOmit=false∧wE hi st (fun h st=>∃ j,h=.int j∧wK va .none (some j) st Q) X)))∨
   (lo.isOmit=false∧wE lo st (fun l st=>∃ i,l=.int i∧((hi.isOmit=true∧wK va (some i) .none st Q)∨(hi.isOmit=false∧wE hi st (fun h st=>∃ j,h=.int j∧wK va (some i) (some j) st Q) X))) X)) X
 | .call f es=>fun st Q X=>wEs es st (fun vs st=>(∃ v H',Φ f vs st.H (.ok v) H'∧Q v ⟨st.s,H'⟩)∨∃ c H',Φ f vs st.H (.err c) H'∧X c ⟨st.s,H'⟩) X
 | .blt f es=>fun st Q X=>wEs es st (fun vs st=>Fi f vs st Q) X
 | .isi a t=>fun st Q X=>wE a st (fun v st=>∃ k,rX st.H v k∧Q (.bool (rT k t)) st) X
 | .mth m a es=>fun st Q X=>wE a st (fun o st=>Rcv st.H o m∧wEs es st (fun vs st=>EW m o vs st Q) X) X
 | .comp elt x it=>fun st Q X=>wE it st (fun vi st=>∃ items,du vi items∧fG (fun v st₁ K=>wE elt (st₁.set x v) (fun r st'=>K [r] ⟨st₁.s,st'.H⟩) fun _ _=>False) items [] st fun out st=>kS out st Q) X
 | .compIf elt x it c=>fun st Q X=>wE it st (fun vi st=>∃ items,du vi items∧fG (fun v st₁ K=>wE c (st₁.set x v) (fun b st'=>(b=.bool true∧wE elt st' (fun r st'=>K [r] ⟨st₁.s,st'.H⟩) fun _ _=>False)∨(b=.bool false∧K [] ⟨st₁.s,st'.H⟩)) fun _ _=>False)
    items [] st fun out st=>kS out st Q) X
 | .compX elt x it=>fun st Q X=>wE it st (fun vi st=>DI (fun v st₁ K=>wE elt (st₁.set x v) (fun r st'=>K [r] ⟨st₁.s,st'.H⟩) fun _ _=>False) vi st Q) X
 | .isiS a=>fun st Q X=>wE a st (fun v st=>∃ j fs,eF st.H v j fs∧Q (.bool true) st) X
 | .attr a x=>fun st Q X=>wE a st (fun v st=>∃ j fs u,eF st.H v j fs∧fs.lookup x=some u∧Q u st) X
 | .mcall f m a es=>fun st Q X=>wE a st (fun o st=>(∃ j fs,eF st.H o j fs∧fs.lookup m=.none)∧wEs es st (fun vs st=>(∃ v H',Φ f (o::vs) st.H (.ok v) H'∧Q v ⟨st.s,H'⟩)∨∃ c H',Φ f (o::vs) st.H (.err c) H'∧X c ⟨st.s,H'⟩) X) X
 | .make es=>fun st Q X=>wEs es st (fun vs st=>(∃ H',Φ "Store.__init__" (.loc (st.H.length+1)::vs) (st.H++[.attrs []]++[.obj st.H.length]) (.ok .none) H'∧Q (.loc (st.H.length+1)) ⟨st.s,H'⟩)∨
   ∃ c H',Φ "Store.__init__" (.loc (st.H.length+1)::vs) (st.H++[.attrs []]++[.obj st.H.length]) (.err c) H'∧H'.take st.H.length=st.H∧X c st) X
 | .dict=>fun st Q _=>Q (.loc st.H.length) ⟨st.s,st.H++[.dictS []]⟩
noncomputable def wEs:Es→St→(List V→St→Prop)→(String→St→Prop)→Prop
 | .nil=>fun st Q _=>Q [] st
 | .cons e es=>fun st Q X=>wE e st (fun v st=>wEs es st (fun vs st=>Q (v::vs) st) X) X
noncomputable def wJ:Es→St→(V→St→Prop)→(String→St→Prop)→Prop
 | .nil=>fun st Q _=>Q (.bool true) st
 | .cons e es=>fun st Q X=>wE e st (fun v st=>∃ b,v=.bool b∧((b=true∧wJ es st Q X)∨(b=false∧Q (.bool false) st))) X
noncomputable def wOr:Es→St→(V→St→Prop)→(String→St→Prop)→Prop
 | .nil=>fun st Q _=>Q (.bool false) st
 | .cons e es=>fun st Q X=>wE e st (fun v st=>∃ b,v=.bool b∧((b=true∧Q (.bool true) st)∨(b=false∧wOr es st Q X))) X
end
noncomputable def FG (vo vi v:V) (st:St) (Q:St→Prop):Prop:=
 (∃ (j:Nat) (k:List Nat) (kvs:List (List Nat×V)),(vo=.loc j∧vi=.str k)∧st.H[j]?= some (.dictS kvs)∧kvs.length < 1000000∧Q ⟨st.s,st.H.set j (.dictS (jU k v kvs))⟩)∨
 False
noncomputable def wT (e:E) (st:St) (Q:Bool→St→Prop) (X:String→St→Prop):Prop:=wE Φ G e st (fun v st=>∃ b,v=.bool b∧Q b st) X
noncomputable def dj (K:St→Prop) (Q:Flow→St→Prop) (f:Flow) (st:St):Prop:=(f=.next∧K st)∨(f≠.next∧Q f st)
noncomputable def noX:String→St→Prop:=fun _ _=>False
mutual
noncomputable def wS:S→St→(Flow→St→Prop)→(String→St→Prop)→Prop
 | .stuck=>fun _ _ _=>False
 | .ex e=>fun st Q X=>wE Φ G e st (fun _ st=>Q .next st) X
 | .asg x e=>fun st Q X=>wE Φ G e st (fun v st=>Q .next (st.set x v)) X
 | .asgSub o i e=>fun st Q X=>wE Φ G e st (fun v st=>wE Φ G o st (fun vo st=>wE Φ G i st (fun vi st=>FG vo vi v st (Q .next)) X) X) X
 | .asgAttr o x e=>fun st Q X=>wE Φ G e st (fun v st=>wE Φ G o st (fun vo st=>∃ j fs,eF st.H vo j fs∧fs.length < 900∧Q .next ⟨st.s,st.H.set j (.attrs (rV x v fs))⟩) X) X
 | .ite c t f=>fun st Q X=>wT Φ G c st (fun b st=>(b=true∧wSs t st Q X)∨(b=false∧wSs f st Q X)) X
 | .whl c b=>fun st Q _=>∃ n,mZ (fun st Q=>wT Φ G c st Q noX) (fun st Q=>wSs b st Q noX) n st Q
 | .for_ x it b=>fun st Q X=>wE Φ G it st (fun vi st=>walkW vi st (fun items st Q=>sW (fun v st Q=>wSs b (st.set x v) Q noX) items st Q) Q) X
 | .ret e=>fun st Q X=>wE Φ G e st (fun v st=>Q (.ret v) st) X
 | .cont=>fun st Q _=>Q .cont st
 | .pass=>fun st Q _=>Q .next st
 | .raise c=>fun st _ X=>ar st.H∧X c st
 | .try_ b c x h=>fun st Q _=>ar st.H∧wSs b st Q fun c' st'=>(st'.H.length=st.H.length∧ar st'.H∧eC c c'=true)∧
   wSs h (st'.exc c' x) (fun f st₂=>BQ st.H.length f∧st₂.H.take st.H.length=st.H∧Q f ((st₂.unx x).cut st.H.length)) noX
noncomputable def wSs:Ss→St→(Flow→St→Prop)→(String→St→Prop)→Prop
 | .nil=>fun st Q _=>Q .next st
 | .cons s ss=>fun st Q X=>wS s st (dj (fun st=>wSs ss st Q X) Q) X
end
end
end
noncomputable section
open PySem
noncomputable def bltNames:List String:=["len", "isinstance", "sorted", "max", "min", "str", "int", "range", "list", "bool", "tuple", "ValueError"]
noncomputable def eV (f:String):Value:=if ["len", "isinstance", "sorted", "max", "min"].contains f then .builtin f else .type f
noncomputable def xC:List Value:=[.type "ValueError",.type "Exception",.type "BaseException",.type "object"]
noncomputable def rP (base:Heap) (mg:Str→Option Value) (exs:List String) (c:String) (cls:Addr):Prop:=
 PyProof.Rows.OwnCls (c:Str) cls xC "ValueError.__new__" mg base∧∃ K:PySem.W.Frag,K.In base∧qV K cls=true∧PySem.W.kitOne K (.ref cls) (.type "ValueError")=some true∧
  ∀ c'∈exs,∃ cls',mg (c':Str)=some (.ref cls')∧PySem.W.kitOne K (.ref cls) (.ref cls')=some (eC c' c)∧(eC c' c=true→eN K cls cls'=true)
noncomputable def mr (K:PySem.W.Frag) (D:Addr):Bool:=PySem.W.plainGet K D "__class__" && PySem.W.hasDictIn K D && PySem.W.findIn K (.ref D) "__class__" == some (some (.builtin "object.__class__")) && PySem.W.specialIn K (.builtin "object.__class__") "__get__" == some (some (.builtin "getset_descriptor.__get__")) && PySem.W.takesIn K (.builtin "object.__class__") == some true && PySem.W.mroIn K D (.type "object") == some true && PySem.W.kitOne K (.ref D) (.ref D) == some true
structure wI (base:Heap) (mg:Str→Option Value) (K:PySem.W.Frag) (cls:Addr) (meths:List (String×String)) (ats:List String) (fa:String→Option Addr):Prop where
 inn:K.In base
 glo:mg (("Store" :String):Str)=some (.ref cls)
 makes:PySem.W.makesIn K cls=true
 init: ∃ a,fa "Store.__init__" =some a∧PySem.W.findIn K (.ref cls) "__init__" =some (some (.ref a))∧PySem.W.typeIn K (.ref a)=some (.type "function")
 get:PySem.W.findIn K (.ref cls) "__getattribute__" =some (some (.builtin "object.__getattribute__"))∧PySem.W.findIn K (.ref cls) "__getattr__" =some none
 set:PySem.W.findIn K (.ref cls) "__setattr__" =some (some (.builtin "object.__setattr__"))
 over:PySem.W.plainOver K cls=true
 hasD:PySem.W.hasDictIn K cls=true
 meth: ∀ p∈meths,∃ a,fa p.2=some a∧PySem.W.findIn K (.ref cls) (p.1:Str)=some (some (.ref a))∧PySem.W.typeIn K (.ref a)=some (.type "function")∧PySem.W.keepIn K (.ref a)=true
 keep:PySem.W.keepIn K (.ref cls)=true
 attr: ∀ x∈ats,PySem.W.findIn K (.ref cls) (x:Str)=some none
 isi:mr K cls=true
structure Cx where
 prog:Program
 w:World
 base:Heap
 os:OsState
 mg:Str→Option Value
 mb:Str→Option Value
 g:base.Ns mainGlobals mg
 b:base.Ns builtinsNs mb
 nolimit:base.NoLimit
 glo:String→Option V
 hglo: ∀ (x:String) v,glo x=some v→∃ i t,v=.int i∧mg x=some (.int i t)
 fns:List String
 /-- where the defs stand -/
 fa:String→Option Addr
 hfns: ∀ f∈fns,∃ a o fd,fa f=some a∧mg (f:Str)=some (.ref a)∧base.get? a=some o∧o.data=.func fd
 K:PySem.W.Frag
 cls:Addr
 meths:List (String×String)
 ats:List String
 hcls:meths≠[]→wI base mg K cls meths ats fa
 exs:List String
 hexs: ∀ c∈exs,∃ cls,rP base mg exs c cls
 blts: ∀ f∈bltNames,mg (f:Str)=none∧mb (f:Str)=some (eV f)
abbrev Cx.M (C:Cx):Model:=model C.prog C.w
noncomputable def HO.isLive:HO→Bool
 | .dead=>false
 | .inst _=>false
 | .obj _=>false
 | _=>true
noncomputable def Lv (ρ:List Addr) (H:List HO) (a:Addr):Prop:=∃ (i:Nat) (o:HO),ρ[i]?= some a∧H[i]?= some o∧o.isLive=true
structure Gh where
 h:Addr→Prop
 f:Addr→Prop
 fh: ∀ a,f a→h a
 e:Addr→Prop
 b:Addr→Prop
 bh: ∀ a,b a→h a
noncomputable def Nl (γ:Gh) (ρ:List Addr) (H:List HO) (a:Addr):Prop:=Lv ρ H a∨γ.h a
noncomputable def aA:Nat:=16777216
mutual
inductive Rel (h:Heap) (ρ:List Addr) (N:Addr→Prop):V→Value→Prop
 | none:Rel h ρ N .none .none
 | bool (b:Bool):Rel h ρ N (.bool b) (.bool b)
 | int (i:Int) (t:Tok):Rel h ρ N (.int i) (.int i t)
 | str {cs:List Nat} (t:Tok):cs.length≤aA→(∀ c∈cs,c < 128)→Rel h ρ N (.str cs) (.str ⟨cs.toArray⟩ t)
 | tup {a:Addr} {vs:List V} {ms:List Value}:h.IsTuple a ms.toArray→¬ N a→vs.length≤aA→aR h ρ N vs ms→Rel h ρ N (.tup vs) (.ref a)
 | lst {a:Addr} {vs:List V} {ms:List Value}:h.PlainList a ms.toArray→¬ N a→vs.length≤aA→aR h ρ N vs ms→Rel h ρ N (.lst vs) (.ref a)
 | rng {r:Addr} {a b c:Int} {t u v:Tok}:IsRange h r a b c t u v→¬ N r→Rel h ρ N (.rng a b c) (.ref r)
 | loc {i:Nat} {a:Addr}:ρ[i]?= some a→Rel h ρ N (.loc i) (.ref a)
inductive aR (h:Heap) (ρ:List Addr) (N:Addr→Prop):List V→List Value→Prop
 | nil:aR h ρ N [] []
 | cons {v:V} {m:Value} {vs:List V} {ms:List Value}:Rel h ρ N v m→aR h ρ N vs ms→aR h ρ N (v::vs) (m::ms)
end
noncomputable def dQ (o o':Obj):Prop:=o'=o∨∃ es n sl,o.data=.dict es n∧o'={ o with slots:=sl }
theorem dQ.refl (o:Obj):dQ o o:=.inl rfl
theorem dQ.trans {a b c:Obj} (x:dQ a b) (y:dQ b c):dQ a c:=by
 rcases x with rfl | ⟨es,n,sl,hd,rfl⟩
 ·exact y
 ·rcases y with rfl | ⟨es',n',sl',hd',rfl⟩
  ·exact .inr ⟨es,n,sl,hd,rfl⟩
  ·exact .inr ⟨es,n,sl',hd,rfl⟩
theorem dQ.same {o o':Obj} (x:dQ o o') (h: ∀ es n,o.data≠.dict es n):o'=o:=by
 rcases x with e | ⟨es,n,sl,hd,_⟩
 ·exact e
 ·exact absurd hd (h es n)
structure cF (h:Heap) (ρ:List Addr) (N:Addr→Prop) (h':Heap) (ρ':List Addr) (N':Addr→Prop):Prop where
 keep: ∀ a o,h.get? a=some o→¬ N a→∃ o',h'.get? a=some o'∧dQ o o'
 live: ∀ a,N' a→N a∨h.get? a=none
 pre: ∀ (i:Nat) a,ρ[i]?= some a→ρ'[i]?= some a
theorem cF.notLive {h h':Heap} {ρ ρ':List Addr} {N N':Addr→Prop} (k:cF h ρ N h' ρ' N') {a:Addr} {o:Obj} (ho:h.get? a=some o) (hn: ¬ N a): ¬ N' a:=fun q=>by
 rcases k.live a q with e | e
 ·exact hn e
 ·rw [ho] at e; cases e
theorem cF.same {h h':Heap} {ρ ρ':List Addr} {N N':Addr→Prop} (k:cF h ρ N h' ρ' N') {a:Addr} {o:Obj} (ho:h.get? a=some o) (hn: ¬ N a) (hd: ∀ es n,o.data≠.dict es n):h'.get? a=some o:=by
 obtain ⟨o',e,q⟩:=k.keep a o ho hn
 rw [e,q.same hd]
theorem cF.gh {γ:Gh} {h h':Heap} {ρ ρ':List Addr} {H H':List HO} (k:cF h ρ (Lv ρ H) h' ρ' (Lv ρ' H')):cF h ρ (Nl γ ρ H) h' ρ' (Nl γ ρ' H'):=
 ⟨fun a o e n=>k.keep a o e fun q=>n (.inl q),fun a q=>by
  rcases q with q | q
  ·exact (k.live a q).imp .inl id
  ·exact .inl (.inr q),k.pre⟩
theorem Rel.both {h:Heap} {ρ:List Addr} {N:Addr→Prop} {P:V→Value→Prop} {L:List V→List Value→Prop} (h1:P .none .none) (h2: ∀ b,P (.bool b) (.bool b)) (h3: ∀ i t,P (.int i) (.int i t))
  (h4: ∀ {cs:List Nat} (t:Tok),cs.length≤aA→(∀ c∈cs,c < 128)→P (.str cs) (.str ⟨cs.toArray⟩ t))
  (h5: ∀ {a:Addr} {vs:List V} {ms:List Value},h.IsTuple a ms.toArray→¬ N a→vs.length≤aA→L vs ms→P (.tup vs) (.ref a))
  (h6: ∀ {a:Addr} {vs:List V} {ms:List Value},h.PlainList a ms.toArray→¬ N a→vs.length≤aA→L vs ms→P (.lst vs) (.ref a))
  (h7: ∀ {r:Addr} {a b c:Int} {t u v:Tok},IsRange h r a b c t u v→¬ N r→P (.rng a b c) (.ref r)) (h8: ∀ {i:Nat} {a:Addr},ρ[i]?= some a→P (.loc i) (.ref a))
  (h9:L [] []) (h10: ∀ {v:V} {m:Value} {vs:List V} {ms:List Value},P v m→L vs ms→L (v::vs) (m::ms)):
  (∀ {v:V} {m:Value},Rel h ρ N v m→P v m)∧∀ {vs:List V} {ms:List Value},aR h ρ N vs ms→L vs ms:=
 ⟨fun r=>Rel.rec (motive_1:=fun v m _=>P v m) (motive_2:=fun vs ms _=>L vs ms) h1 h2 h3 (fun t a b=>h4 t a b) (fun a b c _ x=>h5 a b c x) (fun a b c _ x=>h6 a b c x) (fun a b=>h7 a b) (fun a=>h8 a) h9 (fun _ _ x y=>h10 x y) r,
  fun r=>aR.rec (motive_1:=fun v m _=>P v m) (motive_2:=fun vs ms _=>L vs ms) h1 h2 h3 (fun t a b=>h4 t a b) (fun a b c _ x=>h5 a b c x) (fun a b c _ x=>h6 a b c x) (fun a b=>h7 a b) (fun a=>h8 a) h9 (fun _ _ x y=>h10 x y) r⟩
theorem Rel.kept2 {h h':Heap} {ρ ρ':List Addr} {N N':Addr→Prop} (k:cF h ρ N h' ρ' N'):(∀ {v:V} {m:Value},Rel h ρ N v m→Rel h' ρ' N' v m)∧∀ {vs:List V} {ms:List Value},aR h ρ N vs ms→aR h' ρ' N' vs ms:=
 Rel.both .none .bool .int .str (fun ⟨o,ho,hc,n,hd⟩ hn hl r=>.tup ⟨o,k.same ho hn (fun es n' e=>by rw [hd] at e; cases e),hc,n,hd⟩ (k.notLive ho hn) hl r)
  (fun ⟨n,ho⟩ hn hl r=>.lst ⟨n,k.same ho hn (fun es n' e=>by cases e)⟩ (k.notLive ho hn) hl r) (fun hr hn=>.rng (k.same hr hn (fun es n' e=>by cases e)) (k.notLive hr hn)) (fun e=>.loc (k.pre _ _ e)) .nil .cons
theorem Rel.kept {h h':Heap} {ρ ρ':List Addr} {N N':Addr→Prop} (k:cF h ρ N h' ρ' N') {v:V} {m:Value} (r:Rel h ρ N v m):Rel h' ρ' N' v m:=(Rel.kept2 k).1 r
theorem aR.kept {h h':Heap} {ρ ρ':List Addr} {N N':Addr→Prop} (k:cF h ρ N h' ρ' N') {vs:List V} {ms:List Value} (r:aR h ρ N vs ms):aR h' ρ' N' vs ms:=(Rel.kept2 k).2 r
theorem aR.walk {h:Heap} {ρ:List Addr} {N:Addr→Prop} {L:List V→List Value→Prop} (h1:L [] []) (h2: ∀ {v:V} {m:Value} {vs:List V} {ms:List Value},Rel h ρ N v m→aR h ρ N vs ms→L vs ms→L (v::vs) (m::ms)) {vs:List V} {ms:List Value} (r:aR h ρ N vs ms):L vs ms:=by
 induction vs generalizing ms with
 | nil=>cases r; exact h1
 | cons v vs ih=>cases r with | cons a r=>exact h2 a r (ih r)
theorem aR.length {h:Heap} {ρ:List Addr} {N:Addr→Prop} {vs:List V} {ms:List Value} (r:aR h ρ N vs ms):vs.length=ms.length:=
 r.walk (L:=fun vs ms=>vs.length=ms.length) rfl fun _ _ ih=>congrArg Nat.succ ih
theorem aR.get {h:Heap} {ρ:List Addr} {N:Addr→Prop} {vs:List V} {ms:List Value} (r:aR h ρ N vs ms) {i:Nat} {v:V} (e:vs[i]?= some v): ∃ m,ms[i]?= some m∧Rel h ρ N v m:=
 r.walk (L:=fun vs ms=>∀ (i:Nat) (v:V),vs[i]?= some v→∃ m,ms[i]?= some m∧Rel h ρ N v m) (fun i v e=>by simp at e) (fun a _ ih i v e=>by
  cases i with
  | zero=>simp at e; subst e; exact ⟨_,rfl,a⟩
  | succ i=>exact ih i v e) i v e
theorem aR.get' {h:Heap} {ρ:List Addr} {N:Addr→Prop} {vs:List V} {ms:List Value} (r:aR h ρ N vs ms) {i:Nat} {m:Value} (e:ms[i]?= some m): ∃ v,vs[i]?= some v∧Rel h ρ N v m:=
 r.walk (L:=fun vs ms=>∀ (i:Nat) (m:Value),ms[i]?= some m→∃ v,vs[i]?= some v∧Rel h ρ N v m) (fun i v e=>by simp at e) (fun a _ ih i v e=>by
  cases i with
  | zero=>simp at e; subst e; exact ⟨_,rfl,a⟩
  | succ i=>exact ih i v e) i m e
theorem aR.append {h:Heap} {ρ:List Addr} {N:Addr→Prop} {vs ws:List V} {ms ns:List Value} (r:aR h ρ N vs ms) (q:aR h ρ N ws ns):aR h ρ N (vs++ws) (ms++ns):=
 r.walk (L:=fun vs ms=>aR h ρ N (vs++ws) (ms++ns)) q fun a _ ih=>.cons a ih
theorem aR.take {h:Heap} {ρ:List Addr} {N:Addr→Prop} {vs:List V} {ms:List Value} (r:aR h ρ N vs ms): ∀ n:Nat,aR h ρ N (vs.take n) (ms.take n):=
 r.walk (L:=fun vs ms=>∀ n:Nat,aR h ρ N (vs.take n) (ms.take n)) (fun n=>by rw [List.take_nil,List.take_nil]; exact .nil) fun a _ ih n=>by
  cases n with
  | zero=>exact .nil
  | succ n=>exact .cons a (ih n)
theorem aR.drop {h:Heap} {ρ:List Addr} {N:Addr→Prop} {vs:List V} {ms:List Value} (r:aR h ρ N vs ms): ∀ n:Nat,aR h ρ N (vs.drop n) (ms.drop n):=
 r.walk (L:=fun vs ms=>∀ n:Nat,aR h ρ N (vs.drop n) (ms.drop n)) (fun n=>by rw [List.drop_nil,List.drop_nil]; exact .nil) fun a r ih n=>by
  cases n with
  | zero=>exact .cons a r
  | succ n=>exact ih n
section
variable {h:Heap} {ρ:List Addr} {N:Addr→Prop} {m:Value}
theorem Rel.none_inv (r:Rel h ρ N .none m):m=.none:=by cases r; rfl
theorem Rel.bool_inv {b:Bool} (r:Rel h ρ N (.bool b) m):m=.bool b:=by cases r; rfl
theorem Rel.int_inv {i:Int} (r:Rel h ρ N (.int i) m): ∃ t,m=.int i t:=by cases r; exact ⟨_,rfl⟩
theorem Rel.str_inv {cs:List Nat} (r:Rel h ρ N (.str cs) m): ∃ t,m=.str ⟨cs.toArray⟩ t∧cs.length≤aA∧∀ c∈cs,c < 128:=by cases r with | str t a b=>exact ⟨t,rfl,a,b⟩
theorem Rel.tup_inv {vs:List V} (r:Rel h ρ N (.tup vs) m): ∃ a ms,m=.ref a∧h.IsTuple a ms.toArray∧¬ N a∧vs.length≤aA∧aR h ρ N vs ms:=by cases r with | tup a b c d=>exact ⟨_,_,rfl,a,b,c,d⟩
theorem Rel.lst_inv {vs:List V} (r:Rel h ρ N (.lst vs) m): ∃ a ms,m=.ref a∧h.PlainList a ms.toArray∧¬ N a∧vs.length≤aA∧aR h ρ N vs ms:=by cases r with | lst a b c d=>exact ⟨_,_,rfl,a,b,c,d⟩
theorem Rel.rng_inv {a b c:Int} (r:Rel h ρ N (.rng a b c) m): ∃ x t u v,m=.ref x∧IsRange h x a b c t u v∧¬ N x:=by cases r with | rng p q=>exact ⟨_,_,_,_,rfl,p,q⟩
theorem Rel.loc_inv {i:Nat} (r:Rel h ρ N (.loc i) m): ∃ a,m=.ref a∧ρ[i]?= some a:=by cases r with | loc a=>exact ⟨_,rfl,a⟩
theorem aR.nil_inv {ms:List Value} (r:aR h ρ N [] ms):ms=[]:=by cases r; rfl
theorem aR.cons_inv {v:V} {vs:List V} {ms:List Value} (r:aR h ρ N (v::vs) ms): ∃ m r',ms=m::r'∧Rel h ρ N v m∧aR h ρ N vs r':=by cases r with | cons a r=>exact ⟨_,_,rfl,a,r⟩
end
theorem Rel.low2 {h:Heap} {ρ:List Addr} {N:Addr→Prop}:(∀ {v:V} {m:Value},Rel h ρ N v m→Mine.low ρ.length v)∧∀ {vs:List V} {ms:List Value},aR h ρ N vs ms→Mine.lows ρ.length vs:=
 Rel.both trivial (fun _=>trivial) (fun _ _=>trivial) (fun _ _ _=>trivial) (fun _ _ _ r=>r) (fun _ _ _ r=>r) (fun _ _=>trivial) (fun e=>(List.getElem?_eq_some_iff.mp e).1) trivial fun a r=>⟨a,r⟩
theorem Rel.low {h:Heap} {ρ:List Addr} {N:Addr→Prop} {v:V} {m:Value} (r:Rel h ρ N v m):Mine.low ρ.length v:=Rel.low2.1 r
theorem aR.lows {h:Heap} {ρ:List Addr} {N:Addr→Prop} {vs:List V} {ms:List Value} (r:aR h ρ N vs ms):Mine.lows ρ.length vs:=Rel.low2.2 r
theorem Rel.cut2 {h:Heap} {ρ:List Addr} {N N':Addr→Prop} {n:Nat} (hN: ∀ a,N' a→N a):(∀ {v:V} {m:Value},Rel h ρ N v m→Mine.low n v→Rel h (ρ.take n) N' v m)∧∀ {vs:List V} {ms:List Value},aR h ρ N vs ms→Mine.lows n vs→aR h (ρ.take n) N' vs ms:=
 Rel.both (fun _=>.none) (fun b _=>.bool b) (fun i t _=>.int i t) (fun t a b _=>.str t a b) (fun a b c r l=>.tup a (fun q=>b (hN _ q)) c (r l)) (fun a b c r l=>.lst a (fun q=>b (hN _ q)) c (r l)) (fun a b _=>.rng a fun q=>b (hN _ q))
  (fun {i _} e l=>.loc (by rw [List.getElem?_take,if_pos (show i < n from l)]; exact e)) (fun _=>.nil) fun a r l=>.cons (a l.1) (r l.2)
theorem Rel.cut {h:Heap} {ρ:List Addr} {N N':Addr→Prop} {n:Nat} (hN: ∀ a,N' a→N a) {v:V} {m:Value} (r:Rel h ρ N v m) (l:Mine.low n v):Rel h (ρ.take n) N' v m:=(Rel.cut2 hN).1 r l
theorem aR.cut {h:Heap} {ρ:List Addr} {N N':Addr→Prop} {n:Nat} (hN: ∀ a,N' a→N a) {vs:List V} {ms:List Value} (r:aR h ρ N vs ms) (l:Mine.lows n vs):aR h (ρ.take n) N' vs ms:=(Rel.cut2 hN).2 r l
theorem aO {h h':Heap} {a:Addr} {m:Str→Option Value} (hn:h.Ns a m) (e: ∀ o,h.get? a=some o→∃ o',h'.get? a=some o'∧dQ o o'):h'.Ns a m:=by
 obtain ⟨o,es,ep,ho,hd,hk,hf⟩:=hn
 obtain ⟨o',ho',q⟩:=e o ho
 rcases q with rfl | ⟨_,_,sl,_,rfl⟩
 ·exact ⟨_,es,ep,ho',hd,hk,hf⟩
 ·exact ⟨_,es,ep,ho',hd,hk,hf⟩
theorem cy {h:Heap} {a:Addr} {m:Str→Option Value} (hn:h.Ns a m): ∃ o,h.get? a=some o:=by obtain ⟨o,es,ep,ho,hd,hk,hf⟩:=hn; exact ⟨o,ho⟩
theorem fZ {h:Heap} {a:Addr} {m:Str→Option Value} (hn:h.Ns a m): ∃ o es n,h.get? a=some o∧o.data=.dict es n:=by obtain ⟨o,es,ep,ho,hd,hk,hf⟩:=hn; exact ⟨o,_,_,ho,hd⟩
theorem iv {prog:Program} {w:World} {K:Type} [DecidableEq K] {knd:KeyKind prog w K} {kvs:List (K×Value)} {h h':Heap} {a:Addr} (x:h.DictOf knd a kvs) (e: ∀ o,h.get? a=some o→h'.get? a=some o):h'.DictOf knd a kvs:=by
 obtain ⟨o,ho,r⟩:=Heap.dictOf_iff.mp x
 exact Heap.dictOf_iff.mpr ⟨o,e o ho,r⟩
inductive iT (h:Heap) (ρ:List Addr) (N:Addr→Prop):List (String×V)→List DictEntry→Prop
 | nil:iT h ρ N [] []
 | cons {x:String} {v:V} {fs:List (String×V)} {hs:Int} {t:Tok} {mv:Value} {es:List DictEntry}:Rel h ρ N v mv→iT h ρ N fs es→iT h ρ N ((x,v)::fs) (⟨hs,.str (x:Str) t,mv⟩::es)
inductive ga (h:Heap) (ρ:List Addr) (N:Addr→Prop) {α K:Type} (f:α→K):List (α×V)→List (K×Value)→Prop
 | nil:ga h ρ N f [] []
 | cons {k:α} {v:V} {kvs:List (α×V)} {mv:Value} {ms:List (K×Value)}:Rel h ρ N v mv→ga h ρ N f kvs ms→ga h ρ N f ((k,v)::kvs) ((f k,mv)::ms)
abbrev sOf (s:List Nat):Str:=⟨s.toArray⟩
section
variable {h h':Heap} {ρ ρ':List Addr} {N N':Addr→Prop} {fs:List (String×V)} {es:List DictEntry} {α K:Type} {f:α→K} {kvs:List (α×V)} {ms:List (K×Value)} {n:Nat}
theorem iT.map (r:iT h ρ N fs es) (g: ∀ v m,Rel h ρ N v m→Rel h' ρ' N' v m):iT h' ρ' N' fs es:=by
 induction r with
 | nil=>exact .nil
 | cons a _ ih=>exact .cons (g _ _ a) ih
theorem iT.lows (r:iT h ρ N fs es):Mine.lows ρ.length (fs.map (·.2)):=by
 induction r with
 | nil=>trivial
 | cons a _ ih=>exact ⟨a.low,ih⟩
theorem iT.cut (hN: ∀ a,N' a→N a) (r:iT h ρ N fs es) (l:Mine.lows n (fs.map (·.2))):iT h (ρ.take n) N' fs es:=by
 induction r with
 | nil=>exact .nil
 | cons a _ ih=>exact .cons (a.cut hN l.1) (ih l.2)
theorem iT.length (r:iT h ρ N fs es):fs.length=es.length:=by
 induction r with
 | nil=>rfl
 | cons _ _ ih=>exact congrArg Nat.succ ih
theorem ga.map (r:ga h ρ N f kvs ms) (g: ∀ v m,Rel h ρ N v m→Rel h' ρ' N' v m):ga h' ρ' N' f kvs ms:=by
 induction r with
 | nil=>exact .nil
 | cons a _ ih=>exact .cons (g _ _ a) ih
theorem ga.lows (r:ga h ρ N f kvs ms):Mine.lows ρ.length (kvs.map (·.2)):=by
 induction r with
 | nil=>trivial
 | cons a _ ih=>exact ⟨a.low,ih⟩
theorem ga.cut (hN: ∀ a,N' a→N a) (r:ga h ρ N f kvs ms) (l:Mine.lows n (kvs.map (·.2))):ga h (ρ.take n) N' f kvs ms:=by
 induction r with
 | nil=>exact .nil
 | cons a _ ih=>exact .cons (a.cut hN l.1) (ih l.2)
theorem ga.length (r:ga h ρ N f kvs ms):kvs.length=ms.length:=by
 induction r with
 | nil=>rfl
 | cons _ _ ih=>exact congrArg Nat.succ ih
end
noncomputable def tj (C:Cx) (h:Heap) (ρ:List Addr) (N:Addr→Prop):HO→Addr→Prop
 | .list vs,a=>∃ ms:List Value,h.PlainList a ms.toArray∧aR h ρ N vs ms∧vs.length≤aA
 | .inst c,a=>c∈C.exs∧∃ o cls vs,h.get? a=some o∧C.mg c=some (.ref cls)∧o.cls=.ref cls∧o.dict=none∧o.data=.fields vs
 | .obj j,a=>C.meths≠[]∧∃ d,ρ[j]?= some d∧h.get? a=some (PySem.W.instObj C.cls d)
 | .attrs fs,a=>∃ es n,h.get? a=some (PySem.W.dictOf es n)∧iT h ρ N fs es
 | .dictS kvs,a=>∃ ms,h.DictOf (strKind C.prog C.w) a ms∧ga h ρ N sOf kvs ms∧(kvs.length≤aA∧a≠sysModules)∧∀ p∈kvs,p.1.length≤aA∧∀ c∈p.1,c < 128
 | .dead,_=>True
section
variable {γ:Gh}
structure Inv (C:Cx) (γ:Gh) (ρ:List Addr) (H:List HO) (s:Shared):Prop where
 base: ∀ b o,C.base.get? b=some o→s.heap.get? b=some o
 len:ρ.length=H.length
 nodup:ρ.Nodup
 fresh: ∀ a∈ρ,C.base.get? a=none
 there: ∀ a∈ρ,∃ o,s.heap.get? a=some o
 obj: ∀ (i:Nat) a o,ρ[i]?= some a→H[i]?= some o→tj C s.heap ρ (Nl γ ρ H) o a
 apart: ∀ a∈ρ,γ.h a→γ.b a
 bor: ∀ (i:Nat) a o,ρ[i]?= some a→γ.b a→H[i]?= some o→o=.dead
 held: ∀ a,γ.h a→∃ o,s.heap.get? a=some o
 off: ∀ a,γ.h a→C.base.get? a=none
 frm: ∀ a,γ.f a→∃ o es n,s.heap.get? a=some o∧o.data=.dict es n
 hdl: ∀ a,γ.e a→(∃ o vs,s.heap.get? a=some o∧o.data=.fields vs∧vs[2]?= some .none)∧¬ Lv ρ H a∧¬ γ.h a
 hq:ar H→∀ a,¬ γ.e a
 gens:s.gens= #[]
 os:s.os=C.os
theorem dX {H:List HO} {i:Nat} {o o':HO} (hH:H[i]?= some o) (ho: ∀ c,o≠.inst c) (z:ar (H.set i o')):ar H:=fun c h=>by
 obtain ⟨j,hj⟩:=List.mem_iff_getElem?.mp h
 by_cases e:i=j
 ·subst e; rw [hH] at hj; exact ho c (Option.some.inj hj)
 ·exact z c (List.mem_iff_getElem?.mpr ⟨j,by rw [List.getElem?_set_ne e]; exact hj⟩)
theorem hW {H:List HO} {o:HO} (z:ar (H++[o])):ar H:=fun c h=>z c (List.mem_append.mpr (.inl h))
theorem vU {o:HO} (h:o.isLive=true) (c:String):o≠.inst c:=fun e=>by rw [e] at h; cases h
structure Stp (ρ:List Addr) (H:List HO) (s:Shared) (ρ':List Addr) (H':List HO) (s':Shared):Prop where
 kep:cF s.heap ρ (Lv ρ H) s'.heap ρ' (Lv ρ' H')
theorem Stp.kept {ρ ρ':List Addr} {H H':List HO} {s s':Shared} (S:Stp ρ H s ρ' H' s'):cF s.heap ρ (Nl γ ρ H) s'.heap ρ' (Nl γ ρ' H'):=S.kep.gh
theorem Stp.refl (ρ:List Addr) (H:List HO) (s:Shared):Stp ρ H s ρ H s:=⟨⟨fun _ o e _=>⟨o,e,.refl o⟩,fun _ e=>.inl e,fun _ _ e=>e⟩⟩
theorem Stp.trans {ρ ρ' ρ'':List Addr} {H H' H'':List HO} {s s' s'':Shared} (x:Stp ρ H s ρ' H' s') (y:Stp ρ' H' s' ρ'' H'' s''):Stp ρ H s ρ'' H'' s'':=by
 refine ⟨⟨fun a o e n=>?_,fun a e=>?_,fun i a e=>y.kep.pre _ _ (x.kep.pre _ _ e)⟩⟩
 ·obtain ⟨o',e',q⟩:=x.kep.keep a o e n
  obtain ⟨o'',e'',q'⟩:=y.kep.keep a o' e' (x.kep.notLive e n)
  exact ⟨o'',e'',q.trans q'⟩
 ·rcases y.kep.live a e with q | q
  ·exact x.kep.live a q
  ·by_cases hL:Lv ρ H a
   ·exact .inl hL
   ·right
    cases hg:s.heap.get? a with
    | none=>rfl
    | some o=>
     obtain ⟨o',e',_⟩:=x.kep.keep a o hg hL
     rw [q] at e'; cases e'
theorem Inv.hdl' {C:Cx} {ρ ρ':List Addr} {H H':List HO} {s s':Shared} (I:Inv C γ ρ H s) (K:cF s.heap ρ (Lv ρ H) s'.heap ρ' (Lv ρ' H')) (a:Addr) (q:γ.e a):(∃ o vs,s'.heap.get? a=some o∧o.data=.fields vs∧vs[2]?= some .none)∧¬ Lv ρ' H' a∧¬ γ.h a:=
 let ⟨⟨o,vs,e,d,v⟩,l,nh⟩:=I.hdl a q
 ⟨⟨o,vs,K.same e l (fun es n z=>by rw [d] at z; cases z),d,v⟩,K.notLive e l,nh⟩
theorem Stp.of_keep {ρ:List Addr} {H:List HO} {s s':Shared} (k: ∀ a o,s.heap.get? a=some o→s'.heap.get? a=some o):Stp ρ H s ρ H s':=
 ⟨⟨fun _ o e _=>⟨o,k _ _ e,.refl o⟩,fun _ e=>.inl e,fun _ _ e=>e⟩⟩
theorem tj.kept {C:Cx} {h h':Heap} {ρ ρ':List Addr} {N N':Addr→Prop} (k:cF h ρ N h' ρ' N') {o:HO} {a:Addr} (r:tj C h ρ N o a) (e: ∀ x,h.get? a=some x→h'.get? a=some x):tj C h' ρ' N' o a:=by
 cases o with
 | list vs=>
  obtain ⟨ms,⟨n,hx⟩,r2,r3⟩:=r
  exact ⟨ms,⟨n,e _ hx⟩,r2.kept k,r3⟩
 | inst _=>exact ⟨r.1,let ⟨o,cls,vs,h1,h2⟩:=r.2; ⟨o,cls,vs,e _ h1,h2⟩⟩
 | obj j=>exact ⟨r.1,let ⟨d,h1,h2⟩:=r.2; ⟨d,k.pre _ _ h1,e _ h2⟩⟩
 | attrs fs=>
  obtain ⟨es,n,h1,h2⟩:=r
  exact ⟨es,n,e _ h1,h2.map fun _ _ q=>q.kept k⟩
 | dictS kvs=>
  obtain ⟨ms,hd,r2,r3⟩:=r
  exact ⟨ms,iv hd e,r2.map fun _ _ q=>q.kept k,r3⟩
 | dead=>trivial
theorem Inv.of_keep {C:Cx} {ρ:List Addr} {H:List HO} {s s':Shared} (I:Inv C γ ρ H s) (k: ∀ a o,s.heap.get? a=some o→s'.heap.get? a=some o)
  (hg:s'.gens=s.gens) (ho:s'.os=s.os):Inv C γ ρ H s':=
 ⟨fun b o e=>k _ _ (I.base b o e),I.len,I.nodup,I.fresh,fun a e=>let ⟨o,q⟩:=I.there a e; ⟨o,k _ _ q⟩,fun i a o e1 e2=>(I.obj i a o e1 e2).kept (Stp.of_keep k).kept fun x hx=>k _ _ hx,I.apart,I.bor,fun a q=>let ⟨o,e⟩:=I.held a q; ⟨o,k _ _ e⟩,I.off,(fun a q=>let ⟨o,es,n,e,d⟩:=I.frm a q; ⟨o,es,n,k _ _ e,d⟩),(fun a q=>let ⟨⟨o,vs,e,d⟩,q2⟩:=I.hdl a q; ⟨⟨o,vs,k _ _ e,d⟩,q2⟩),I.hq,hg.trans I.gens,ho.trans I.os⟩
structure Fra (γ:Gh) (env:Env) (st:St) (ρ:List Addr) (s:Shared):Prop where
 kind:env.scope.kind=.function
 glob:env.globals=mainGlobals
 blt:env.builtins=builtinsNs
 nl: ¬ Lv ρ st.H env.locals
 own:γ.h env.locals
 ns: ∃ m,s.heap.Ns env.locals m∧∀ (x:String) v,env.kindOf x=some .local→(x:Str)≠(".0" :Str)→st.s x=some v→∃ mv,m x=some mv∧Rel s.heap ρ (Nl γ ρ st.H) v mv
 cell: ∀ n:Str,(env.kindOf n=some .cell∨env.kindOf n=some .free)→∃ c ov,env.cells.lookup n=some c∧(¬ Lv ρ st.H c∧γ.h c)∧s.heap.IsCell c ov∧
  ∀ (x:String),(x:Str)=n→∀ v,st.s x=some v→∃ mv,ov=some mv∧Rel s.heap ρ (Nl γ ρ st.H) v mv
 apart: ∀ (n n':Str) c,env.cells.lookup n=some c→env.cells.lookup n'=some c→n=n'
 nb: ¬ γ.b env.locals
 nbc: ∀ (n:Str) c,env.cells.lookup n=some c→γ.h c∧¬ γ.b c
theorem Fra.step {env:Env} {st st':St} {ρ ρ':List Addr} {s s':Shared} (F:Fra γ env st ρ s) (S:Stp ρ st.H s ρ' st'.H s') (e:st'.s=st.s):Fra γ env st' ρ' s':=by
 obtain ⟨m,hm,hv⟩:=F.ns
 obtain ⟨oL,hoL⟩:=cy hm
 refine ⟨F.kind,F.glob,F.blt,S.kep.notLive hoL F.nl,F.own,⟨m,aO hm fun o ho=>S.kep.keep _ o ho F.nl,fun x v k kz q=>?_⟩,fun x k=>?_,F.apart,F.nb,F.nbc⟩
 ·obtain ⟨mv,e1,e2⟩:=hv x v k kz (e▸q)
  exact ⟨mv,e1,e2.kept S.kept⟩
 ·obtain ⟨c,ov,h1,h2,⟨oc,hoc,hdc⟩,h4⟩:=F.cell x k
  refine ⟨c,ov,h1,⟨S.kep.notLive hoc h2.1,h2.2⟩,⟨oc,S.kep.same hoc h2.1 (fun es n q=>by rw [hdc] at q; cases q),hdc⟩,fun y hy v q=>?_⟩
  obtain ⟨mv,e1,e2⟩:=h4 y hy v (e▸q)
  exact ⟨mv,e1,e2.kept S.kept⟩
structure bO (k:Nat) (A:Around) (γ:Gh):Prop where
 depth:A.depth+k < 900
 units:A.units+4*k < 9000
 hdl: ∀ v,A.handled=some v→∃ e,v=.ref e∧γ.e e
 frs: ∃ l,A.frames=some l∧∀ env∈l,env.scope.kind≠.module∧∃ L,env.frame=some L∧γ.f L
theorem bO.mono {k j:Nat} {A:Around} (r:bO k A γ) (h:j≤k):bO j A γ:=⟨by have:=r.depth; exact lin [_,j,k] [(1,.v 1,.v 2),(1,.a (.a (.v 0) (.v 2)) (.n 1),.n 900)] 1 (.a (.a (.v 0) (.v 1)) (.n 1)) (.n 900) rfl h this,by have:=r.units; exact lin [_,j,k] [(4,.v 1,.v 2),(1,.a (.a (.v 0) (.m 4 (.v 2))) (.n 1),.n 9000)] 1 (.a (.a (.v 0) (.m 4 (.v 1))) (.n 1)) (.n 9000) rfl h this,r.hdl,r.frs⟩
theorem bO.handled {k:Nat} {A:Around} {C:Cx} {ρ:List Addr} {H:List HO} {s:Shared} (r:bO k A γ) (I:Inv C γ ρ H s) (h:ar H):A.handled=none:=by
 cases e:A.handled with
 | none=>rfl
 | some v=>obtain ⟨a,_,q⟩:=r.hdl v e; exact absurd q (I.hq h a)
theorem bO.more {k:Nat} {A:Around} {γ':Gh} (r:bO k A γ) (h: ∀ a,γ.f a→γ'.f a) (he: ∀ a,γ.e a→γ'.e a):bO k A γ':=
 ⟨r.depth,r.units,(fun v q=>let ⟨e,h1,h2⟩:=r.hdl v q; ⟨e,h1,he e h2⟩),let ⟨l,h1,h2⟩:=r.frs; ⟨l,h1,fun env he=>let ⟨a,L,b,c⟩:=h2 env he; ⟨a,L,b,h L c⟩⟩⟩
theorem bO.deeper {k:Nat} {A:Around} {γ':Gh} (r:bO (k+1) A γ) (env:Env) (hf: ∀ a,γ.f a→γ'.f a) (he: ∀ a,γ.e a→γ'.e a) (hk:env.scope.kind≠.module) {L:Addr} (hL:env.frame=some L) (hfL:γ'.f L):bO k (A.deeper env) γ':=
 ⟨by have:=r.depth; show A.depth+1+k < 900; exact lin [_,k] [(1,.a (.a (.v 0) (.a (.v 1) (.n 1))) (.n 1),.n 900)] 1 (.a (.a (.a (.v 0) (.n 1)) (.v 1)) (.n 1)) (.n 900) rfl this,by have:=r.units; show A.units+3+4*k < 9000; exact lin [_,k] [(1,.a (.a (.v 0) (.m 4 (.a (.v 1) (.n 1)))) (.n 1),.n 9000)] 1 (.a (.a (.a (.v 0) (.n 3)) (.m 4 (.v 1))) (.n 1)) (.n 9000) rfl this,(fun v q=>let ⟨e,h1,h2⟩:=r.hdl v q; ⟨e,h1,he e h2⟩),by
  obtain ⟨l,h1,h2⟩:=r.frs
  refine ⟨env::l,Around.frames_deeper h1,fun e he=>?_⟩
  rcases List.mem_cons.mp he with rfl | he
  ·exact ⟨hk,L,hL,hfL⟩
  ·obtain ⟨a,L,b,c⟩:=h2 e he
   exact ⟨a,L,b,hf L c⟩⟩
noncomputable def iQ (h:Heap) (e T cls:Addr) (fl:Value):Prop:=∃ oe vs oT ts,h.get? e=some oe∧(oe.cls=.ref cls∧oe.dict=none∧oe.data=.fields vs)∧(vs[1]?= some (.ref T)∧vs[2]?= some .none)∧T≠e∧h.get? T=some oT∧oT.cls=.type "traceback" ∧oT.data=.fields ts∧ts[3]?= some fl
noncomputable def jd (C:Cx) (b:Heap) (s':Shared) (ev:Value) (c:String):Prop:=∃ e cls T,ev=.ref e∧(c∈C.exs∧C.mg c=some (.ref cls))∧b.get? e=none∧b.get? T=none∧iQ s'.heap e T cls .none
noncomputable def pz (C:Cx) (b:Heap) (s':Shared) (ev:Value) (c:String):Prop:=∃ e cls t,ev=.ref e∧(c∈C.exs∧C.mg c=some (.ref cls))∧b.get? e=none∧s'.heap.get? e=some { cls:=.ref cls,data:=.fields #[.ref t,.none,.none,.none,.bool false,.none]}
theorem jd.back {C:Cx} {b b':Heap} {s':Shared} {ev:Value} {c:String} (h: ∀ a,b'.get? a=none→b.get? a=none) (x:jd C b' s' ev c):jd C b s' ev c:=by
 obtain ⟨e,cls,T,h1,h2,h3,h4,h5⟩:=x
 exact ⟨e,cls,T,h1,h2,h e h3,h T h4,h5⟩
theorem pz.back {C:Cx} {b b':Heap} {s':Shared} {ev:Value} {c:String} (h: ∀ a,b'.get? a=none→b.get? a=none) (x:pz C b' s' ev c):pz C b s' ev c:=by
 obtain ⟨e,cls,t,h1,h2,h3,h4⟩:=x
 exact ⟨e,cls,t,h1,h2,h e h3,h4⟩
theorem Stp.back {C:Cx} {ρ ρ₁:List Addr} {H H₁:List HO} {s s₁:Shared} (S:Stp ρ H s ρ₁ H₁ s₁) (I:Inv C γ ρ₁ H₁ s₁) (a:Addr) (h:s₁.heap.get? a=none):s.heap.get? a=none:=by
 cases e:s.heap.get? a with
 | none=>rfl
 | some o=>
  exfalso
  by_cases q:Lv ρ H a
  ·obtain ⟨i,_,q1,_⟩:=q
   obtain ⟨o',e'⟩:=I.there a (List.mem_of_getElem? (S.kep.pre i a q1))
   rw [h] at e'; cases e'
  ·obtain ⟨o',e',_⟩:=S.kep.keep a o e q
   rw [h] at e'; cases e'
noncomputable def ef (C:Cx) (γ:Gh) (ρ:List Addr) (st:St) (s:Shared) (Q:V→St→Prop) (mv:Value) (s':Shared):Prop:=
 ∃ v st' ρ',Q v st'∧st'.s=st.s∧Rel s'.heap ρ' (Nl γ ρ' st'.H) v mv∧Inv C γ ρ' st'.H s'∧Stp ρ st.H s ρ' st'.H s'
noncomputable def bt (C:Cx) (γ:Gh) (ρ:List Addr) (st:St) (s:Shared) (X:String→St→Prop) (ev:Value) (s':Shared):Prop:=
 ∃ c st' ρ',X c st'∧st'.s=st.s∧jd C s.heap s' ev c∧Inv C γ ρ' st'.H s'∧Stp ρ st.H s ρ' st'.H s'
theorem bt.step {C:Cx} {ρ ρ₁:List Addr} {st st₁:St} {s s₁:Shared} {X:String→St→Prop} {ev:Value} {s':Shared} (I:Inv C γ ρ₁ st₁.H s₁) (S:Stp ρ st.H s ρ₁ st₁.H s₁) (e:st₁.s=st.s) (p:bt C γ ρ₁ st₁ s₁ X ev s'):bt C γ ρ st s X ev s':=by
 obtain ⟨c,st',ρ',h1,h2,h3,h4,h5⟩:=p
 exact ⟨c,st',ρ',h1,h2.trans e,h3.back (S.back I),h4,S.trans h5⟩
theorem ef.step {C:Cx} {ρ ρ₁:List Addr} {st st₁:St} {s s₁:Shared} {Q:V→St→Prop} {mv:Value} {s':Shared} (S:Stp ρ st.H s ρ₁ st₁.H s₁) (e:st₁.s=st.s) (p:ef C γ ρ₁ st₁ s₁ Q mv s'):ef C γ ρ st s Q mv s':=by
 obtain ⟨v,st',ρ',h1,h2,h3,h4,h5⟩:=p
 exact ⟨v,st',ρ',h1,h2.trans e,h3,h4,S.trans h5⟩
noncomputable def Calls (C:Cx) (k:Nat):Orc:=fun f args H r H'=>∀ (A:Around) (s:Shared) (γ:Gh) (ρ:List Addr) (ms:List Value) (fa:Addr),bO (2*k) A γ→Inv C γ ρ H s→aR s.heap ρ (Nl γ ρ H) args ms→C.fa f=some fa→
 codeAny C.M A (.call (.ref fa) ⟨ms,[]⟩) (fun res s'=>match r,res with
  | .ok v,.ok (.ret mv)=>∃ ρ',Rel s'.heap ρ' (Nl γ ρ' H') v mv∧Inv C γ ρ' H' s'∧Stp ρ H s ρ' H' s'
  | .err c,.error ev=>∃ ρ',jd C s.heap s' ev c∧Inv C γ ρ' H' s'∧Stp ρ H s ρ' H' s'
  | _,_=>False) s
theorem Calls.mono {C:Cx} {k j:Nat} {f:String} {args:List V} {H H':List HO} {r:R} (x:Calls C k f args H r H') (h:k≤j):Calls C j f args H r H':=
 fun A s γ ρ ms fa hr=>x A s γ ρ ms fa (hr.mono (Nat.mul_le_mul_left 2 h))
end
end
noncomputable section
open PySem
theorem dz {α β:Type} [BEq α] {p:α×β} {r:List (α×β)} {k:α}:(p::r).lookup k=if (k == p.1)=true then some p.2 else r.lookup k:=by
 rw [List.lookup]; cases k == p.1<;>rfl
section
variable {h:Heap} {ρ:List Addr} {N:Addr→Prop} {α K:Type} [BEq α] [LawfulBEq α] [DecidableEq α] [DecidableEq K] {f:α→K} {kvs:List (α×V)} {ms:List (K×Value)}
theorem fK {K:Type} [DecidableEq K] {p:K×Value} {r:List (K×Value)} {k:K}:valueAt (p::r) k=if p.1=k then some p.2 else valueAt r k:=by
 rw [valueAt,List.find?_cons]
 by_cases q:p.1=k
 ·rw [if_pos q,decide_eq_true q]; rfl
 ·rw [if_neg q,decide_eq_false q]; rfl
theorem ga.get (hf: ∀ a b,f a=f b→a=b) (r:ga h ρ N f kvs ms) (k:α):match kvs.lookup k with
  | some v=>∃ mv,valueAt ms (f k)=some mv∧Rel h ρ N v mv
  | none=>valueAt ms (f k)=none:=by
 induction r with
 | nil=>rfl
 | @cons k' v kvs mv ms a _ ih=>
  rw [dz,fK]
  by_cases q:k=k'
  ·subst q
   rw [if_pos (beq_self_eq_true k),if_pos rfl]
   exact ⟨mv,rfl,a⟩
  ·rw [if_neg (fun z=>q (eq_of_beq z)),if_neg (fun z=>q (hf _ _ z.symm))]
   exact ih
theorem ga.has (hf: ∀ a b,f a=f b→a=b) (r:ga h ρ N f kvs ms) (k:α):(valueAt ms (f k)).isSome=decide (k∈kvs.map (·.1)):=by
 induction r with
 | nil=>rfl
 | @cons k' v kvs mv ms a _ ih=>
  rw [fK,Bool.eq_iff_iff,decide_eq_true_eq,List.map_cons,List.mem_cons]
  by_cases q:k=k'
  ·subst q; rw [if_pos rfl]; exact ⟨fun _=>.inl rfl,fun _=>rfl⟩
  ·rw [if_neg (fun z=>q (hf _ _ z.symm)),ih,decide_eq_true_eq]
   exact ⟨.inr,fun z=>z.resolve_left q⟩
theorem ga.store (hf: ∀ a b,f a=f b→a=b) (r:ga h ρ N f kvs ms) (k:α) {v:V} {mv:Value} (rv:Rel h ρ N v mv):ga h ρ N f (jU k v kvs) (stored ms (f k) mv):=by
 have key: ∀ {kvs:List (α×V)} {ms:List (K×Value)},ga h ρ N f kvs ms→ga h ρ N f (kvs.map fun p=>if p.1=k then (p.1,v) else p) (ms.map fun p=>if p.1=f k then (p.1,mv) else p):=fun r=>by
  induction r with
  | nil=>exact .nil
  | @cons k' u kvs mu ms a _ ih=>
   rw [List.map_cons,List.map_cons]
   by_cases q:k'=k
   ·rw [if_pos q,if_pos (congrArg f q)]; exact .cons rv ih
   ·rw [if_neg q,if_neg (fun z=>q (hf _ _ z))]; exact .cons a ih
 have app: ∀ {kvs:List (α×V)} {ms:List (K×Value)},ga h ρ N f kvs ms→ga h ρ N f (kvs++[(k,v)]) (ms++[(f k,mv)]):=fun r=>by
  induction r with
  | nil=>exact .cons rv .nil
  | cons a _ ih=>exact .cons a ih
 have any:(ms.any fun p=>decide (p.1=f k))=decide (k∈kvs.map (·.1)):=by
  rw [← r.has hf k,valueAt,Option.isSome_map,Bool.eq_iff_iff,List.find?_isSome,List.any_eq_true]
 unfold jU stored
 rw [any]
 by_cases q:k∈kvs.map (·.1)
 ·rw [if_pos q,if_pos (decide_eq_true q)]; exact key r
 ·rw [if_neg q,if_neg (by rw [decide_eq_false q]; exact Bool.false_ne_true)]; exact app r
theorem lR (k:α) (v:V) (kvs:List (α×V)):(jU k v kvs).length≤kvs.length+1:=by
 unfold jU
 split
 ·rw [List.length_map]; exact Nat.le_succ _
 ·rw [List.length_append]; exact Nat.le_refl _
theorem qm {k:α} {v:V} {kvs:List (α×V)} {p:α×V} (h:p∈jU k v kvs):p.1=k∨∃ q∈kvs,q.1=p.1:=by
 unfold jU at h
 split at h
 ·obtain ⟨q,h1,h2⟩:=List.mem_map.mp h
  refine .inr ⟨q,h1,?_⟩
  rw [← h2]; split<;>rfl
 ·rcases List.mem_append.mp h with h | h
  ·exact .inr ⟨p,h,rfl⟩
  ·rw [List.mem_singleton.mp h]; exact .inl rfl
end
theorem fq (a b:List Nat) (h:sOf a=sOf b):a=b:=by
 have:a.toArray=b.toArray:=congrArg Str.cps h
 simpa using this
section
variable {h:Heap} {ρ:List Addr} {N:Addr→Prop} {fs:List (String×V)} {es:List DictEntry}
theorem fm {x y:String} (h:(x:Str)=(y:Str)):x=y:=by
 have h':Str.ofString x=Str.ofString y:=h
 rw [Str.ofString_eq_toList,Str.ofString_eq_toList] at h'
 have h2:x.toList.map Char.toNat=y.toList.map Char.toNat:=by simpa using h'
 have inj: ∀ {a b:List Char},a.map Char.toNat=b.map Char.toNat→a=b:=by
  intro a
  induction a with
  | nil=>intro b e; cases b with
   | nil=>rfl
   | cons _ _=>simp at e
  | cons c a ih=>intro b e; cases b with
   | nil=>simp at e
   | cons d b=>
    simp only [List.map_cons,List.cons.injEq] at e
    have:c=d:=Char.ext (UInt32.toNat_inj.mp e.1)
    rw [this,ih e.2]
 exact String.toList_inj.mp (inj h2)
theorem nL {x y:String} {t:Tok}:(Value.str (x:Str) t).isStr (y:Str)=decide (x=y):=by
 show ((x:Str) == (y:Str))=_
 rw [Bool.eq_iff_iff,beq_iff_eq,decide_eq_true_eq]
 exact ⟨fm,fun e=>e▸rfl⟩
theorem iT.noRef (r:iT h ρ N fs es):(es.any (·.refKey))=false:=by
 induction r with
 | nil=>rfl
 | cons _ _ ih=>rw [List.any_cons,ih]; rfl
theorem iT.get (r:iT h ρ N fs es) (x:String):match fs.lookup x with
  | some v=>∃ mv,PySem.W.getL (x:Str) es=some (some mv)∧Rel h ρ N v mv
  | none=>PySem.W.getL (x:Str) es=some none:=by
 have key:match fs.lookup x with
  | some v=>∃ e,es.find? (·.key.isStr (x:Str))=some e∧Rel h ρ N v e.val
  | none=>es.find? (·.key.isStr (x:Str))=none:=by
  induction r with
  | nil=>rfl
  | @cons y v fs hs t mv es a _ ih=>
   rw [dz,List.find?_cons]
   have e:(Value.str (y:Str) t).isStr (x:Str)=decide (y=x):=nL
   by_cases q:x=y
   ·subst q
    rw [if_pos (beq_self_eq_true x),e,decide_eq_true rfl]
    exact ⟨_,rfl,a⟩
   ·rw [if_neg (fun z=>q (eq_of_beq z)),e,decide_eq_false (fun z=>q z.symm)]
    exact ih
 have nr:=r.noRef
 unfold PySem.W.getL
 cases e:fs.lookup x with
 | none=>rw [e] at key; rw [key,nr]; rfl
 | some v=>rw [e] at key; obtain ⟨en,h1,h2⟩:=key; rw [h1]; exact ⟨_,rfl,h2⟩
theorem iT.put (r:iT h ρ N fs es) (x:String) {v:V} {mv:Value} (rv:Rel h ρ N v mv) (hs:Int) (t:Tok):iT h ρ N (rV x v fs) (PySem.W.putL (x:Str) hs (.str (x:Str) t) mv es):=by
 induction r with
 | nil=>exact .cons rv .nil
 | @cons y u fs hs' t' mu es a ra ih=>
  have e:(Value.str (y:Str) t').isStr (x:Str)=decide (y=x):=nL
  rw [rV,PySem.W.putL,e]
  by_cases q:y=x
  ·rw [if_pos q,decide_eq_true q,if_pos rfl]; exact .cons rv ra
  ·rw [if_neg q,decide_eq_false q,if_neg Bool.false_ne_true]; exact .cons a ih
end
theorem lS (x:String) (v:V) (fs:List (String×V)):(rV x v fs).length≤fs.length+1:=by
 induction fs with
 | nil=>exact Nat.le_refl _
 | cons p r ih=>
  rw [rV]
  split
  ·exact Nat.le_succ _
  ·exact Nat.succ_le_succ ih
theorem cL {sep p q:List Nat} {ps:List (List Nat)}:bf sep (p::q::ps)=p++(sep++bf sep (q::ps)):=by
 rw [bf,bf,List.flatMap_cons,List.append_assoc]
theorem pV {c:Nat} {p q r r':List Nat} (hp:c ∉ p) (hq:c ∉ q) (e:p++c::r=q++c::r'):p=q∧r=r':=by
 induction p generalizing q with
 | nil=>
  cases q with
  | nil=>exact ⟨rfl,(List.cons.inj e).2⟩
  | cons d q=>exact absurd (by rw [(List.cons.inj e).1]; exact List.mem_cons_self) hq
 | cons d p ih=>
  cases q with
  | nil=>exact absurd (by rw [← (List.cons.inj e).1]; exact List.mem_cons_self) hp
  | cons d' q=>
   obtain ⟨rfl,e'⟩:=List.cons.inj e
   obtain ⟨rfl,h⟩:=ih (fun z=>hp (List.mem_cons_of_mem _ z)) (fun z=>hq (List.mem_cons_of_mem _ z)) e'
   exact ⟨rfl,h⟩
theorem qK {c:Nat} (ps:List (List Nat)): ∀ qs:List (List Nat),ps≠[]→qs≠[]→(∀ p∈ps,c ∉ p)→(∀ q∈qs,c ∉ q)→bf [c] ps=bf [c] qs→ps=qs:=by
 induction ps with
 | nil=>exact fun _ h=>absurd rfl h
 | cons p ps ih=>
  intro qs _ hq f g e
  have hp:=f p List.mem_cons_self
  have f': ∀ p∈ps,c ∉ p:=fun x hx=>f x (List.mem_cons_of_mem _ hx)
  match qs,hq,g with
  | q::qs,_,g=>
   have hq:=g q List.mem_cons_self
   have g': ∀ p∈qs,c ∉ p:=fun x hx=>g x (List.mem_cons_of_mem _ hx)
   match ps,qs with
   | [],[]=>rw [show p=q by simpa [bf] using e]
   | [],q'::qs=>exact absurd (show c∈p by rw [show p=q++([c]++bf [c] (q'::qs)) by rw [← cL,← e]; simp [bf]]; simp) hp
   | p'::ps,[]=>exact absurd (show c∈q by rw [show q=p++([c]++bf [c] (p'::ps)) by rw [← cL,e]; simp [bf]]; simp) hq
   | p'::ps,q'::qs=>
    rw [cL,cL] at e
    obtain ⟨rfl,e'⟩:=pV hp hq e
    rw [ih (q'::qs) (fun h=>nomatch h) (fun h=>nomatch h) f' g' e']
end
noncomputable section
open PySem PyProof.Rows
variable {γ:Gh}
theorem ba:sizeLine=aA:=rfl
noncomputable def mS (s:Shared) (P:Value→Prop) (mv:Value) (s':Shared):Prop:=P mv∧∃ tk,s'={ s with toks:=tk }
theorem mS.now {s:Shared} {P:Value→Prop} {mv:Value} (h:P mv):mS s P mv s:=⟨h,s.toks,rfl⟩
section
variable {prog:Program} {w:World} {A:Around} {E:Value→Shared→Prop} {s:Shared} {ρ:List Addr} {N:Addr→Prop}
theorem bu (a:List Nat):((⟨a.toArray⟩:Str)).length=a.length:=by rw [Str.length,List.size_toArray]
theorem dm (a b:List Nat):(⟨a.toArray⟩:Str)++(⟨b.toArray⟩:Str)=⟨(a++b).toArray⟩:=by
 show Str.append _ _=_
 simp [Str.append]
theorem Rel.nil (t:Tok) {m:Value} (e:m=.str ⟨#[]⟩ t):Rel s.heap ρ N (.str []) m:=e▸.str (cs:=[]) t (Nat.zero_le _) fun _ h=>absurd h List.not_mem_nil
theorem sK {op:Operator} {va vb v:V} {ma mb:Value} (e:Bin op va vb v) (ra:Rel s.heap ρ N va ma) (rb:Rel s.heap ρ N vb mb):
  wpAny (model prog w) A (binaryOp op ma mb) (mS s fun mv=>Rel s.heap ρ N v mv) E s:=by
 cases e with
 | add a b=>
  obtain ⟨t,rfl⟩:=ra.int_inv
  obtain ⟨u,rfl⟩:=rb.int_inv
  exact P.add_int ⟨.int _ _,_,rfl⟩
 | sub a b=>
  obtain ⟨t,rfl⟩:=ra.int_inv
  obtain ⟨u,rfl⟩:=rb.int_inv
  exact P.sub_int ⟨.int _ _,_,rfl⟩
 | mul h=>
  obtain ⟨t,rfl⟩:=ra.int_inv
  obtain ⟨u,rfl⟩:=rb.int_inv
  refine P.mul_int ⟨.int _ _,_,rfl⟩ ?_
  rcases h with h | h
  ·exact IntMulOk.of_left (intBits_le_64 (by lia) (by lia))
  ·exact IntMulOk.of_right (intBits_le_64 (by lia) (by lia))
 | div h0 h1=>
  obtain ⟨t,rfl⟩:=ra.int_inv
  obtain ⟨u,rfl⟩:=rb.int_inv
  exact floordiv_int (fun q=>by rw [q] at h0; cases h0) ⟨by rw [Int.fdiv_eq_ediv_of_nonneg _ (Int.le_of_lt h0)]; exact .int _ _,_,rfl⟩ (.inl (PyProof.noPylong_small (by lia)))
 | mod h0=>
  obtain ⟨t,rfl⟩:=ra.int_inv
  obtain ⟨u,rfl⟩:=rb.int_inv
  exact mod_int' (fun q=>by rw [q] at h0; cases h0) ⟨by rw [Int.fmod_eq_emod_of_nonneg _ (Int.le_of_lt h0)]; exact .int _ _,_,rfl⟩
 | pow h0 h1 h2=>
  obtain ⟨t,rfl⟩:=ra.int_inv
  obtain ⟨u,rfl⟩:=rb.int_inv
  exact pow_int_small h0 (by exact (Int.le_of_lt (Int.lt_of_le_of_lt h1 (show (1000:Int) < 1000000 by decide)))) (by lia) ⟨.int _ _,_,rfl⟩
 | @cat a b hs=>
  obtain ⟨t,rfl,ha,ha'⟩:=ra.str_inv
  obtain ⟨u,rfl,hb,hb'⟩:=rb.str_inv
  have fits:(a++b).length≤aA:=by rw [List.length_append]; unfold aA; exact lin [_,_] [(1,.a (.v 0) (.v 1),.n 16000000)] 1 (.a (.v 0) (.v 1)) (.n 16777216) rfl hs
  have all: ∀ c∈a++b,c < 128:=fun c hc=>(List.mem_append.mp hc).elim (ha' c) (hb' c)
  refine P.add_str ?_
  rw [bu,bu]
  by_cases h0:(a.length == 0)=true
  ·rw [if_pos h0]
   obtain rfl:a=[]:=List.eq_nil_of_length_eq_zero (beq_iff_eq.mp h0)
   exact .now (.str _ fits all)
  ·rw [if_neg h0]
   by_cases h1:(b.length == 0)=true
   ·rw [if_pos h1]
    obtain rfl:b=[]:=List.eq_nil_of_length_eq_zero (beq_iff_eq.mp h1)
    exact .now (by rw [List.append_nil]; exact .str _ ha ha')
   ·rw [if_neg h1]
    rw [dm]
    refine ⟨by rw [bu]; exact fits,?_⟩
    exact ⟨.str _ fits all,_,rfl⟩
end
end
noncomputable section
open PySem PyProof.Rows PySem.Spec PySem.SeqAt Builtin.Str
variable {γ:Gh}
theorem Inv.view {C:Cx} {ρ:List Addr} {H:List HO} {s:Shared} (I:Inv C γ ρ H s) {v:V} {m:Value} {xs:List V} (r:Rel s.heap ρ (Nl γ ρ H) v m) (e:fY H v xs):
  ∃ a ms,m=.ref a∧s.heap.PlainList a ms.toArray∧aR s.heap ρ (Nl γ ρ H) xs ms∧xs.length≤aA:=by
 cases e with
 | lst _=>
  obtain ⟨a,ms,rfl,h1,_,h2,h3⟩:=r.lst_inv
  exact ⟨a,ms,rfl,h1,h3,h2⟩
 | loc h=>
  obtain ⟨a,rfl,ha⟩:=r.loc_inv
  obtain ⟨ms,h1,h2,h3⟩:=I.obj _ _ _ ha h
  exact ⟨a,ms,rfl,h1,h2,h3⟩
section
variable {prog:Program} {w:World} {A:Around} {E:Value→Shared→Prop} {s:Shared}
theorem gV (slice:Expr) (o i:Value): ∃ ops,subscripted slice false o i=operate ops (getItem o i):=by
 unfold subscripted
 split
 ·exact ⟨_,rfl⟩
 ·rename_i h; cases h
 ·exact ⟨_,rfl⟩
theorem fx {value slice:Expr} {o i:Value} {T id:String} {Q:Value→Shared→Prop} (hT:s.TypeIs o T)
  (hl:typeLookup (.type T) "__getitem__" =pure (some (.builtin id))) (h:wpAny (model prog w) A (getItem o i) Q E s):wpAny (model prog w) A (subscriptTail value slice o i) Q E s:=by
 unfold subscriptTail
 refine wpAny_bind ?_
 rw [getitemInPython_of_ne hT.not_modules]
 refine wpAny_bind (wpAny_specialOf hT hl ?_)
 obtain ⟨ops,hs⟩:=gV slice o i
 have fin:wpAny (model prog w) A (subscripted slice false o i) (fun r s₃=>wpAny (model prog w) A (letTemporaryGo value o r >>= fun _=>pure r) Q E s₃) E s:=by
  rw [hs]
  exact wpAny_operating (wpAny_mono h (fun r s₃ h₃=>wpAny_bind (wpAny_letTemporaryGo (wpAny_pure h₃))) fun _ _ x=>x)
 first
  | exact wpAny_pure (wpAny_bind fin)
  | exact wpAny_bind (wpAny_pure (wpAny_bind fin))
  | exact wpAny_bind fin
end
theorem fI {ρ:List Addr} {H:List HO} {a b:Addr} {o:HO} (hl:ρ.length=H.length) (q:Lv (ρ++[a]) (H++[o]) b):Lv ρ H b∨b=a:=by
 obtain ⟨i,x,h1,h2,h3⟩:=q
 rcases Nat.lt_trichotomy i ρ.length with h | h | h
 ·rw [List.getElem?_append_left h] at h1
  rw [List.getElem?_append_left (hl▸h)] at h2
  exact .inl ⟨i,x,h1,h2,h3⟩
 ·subst h
  simp at h1
  exact .inr h1.symm
 ·have:(ρ++[a])[i]?= none:=List.getElem?_eq_none (by rw [List.length_append,List.length_singleton]; exact h)
  rw [this] at h1; cases h1
structure bP (s s':Shared):Prop where
 keep: ∀ b o,s.heap.get? b=some o→s'.heap.get? b=some o
 gens:s'.gens=s.gens
 os:s'.os=s.os
theorem bP.refl (s:Shared):bP s s:=⟨fun _ _ e=>e,rfl,rfl⟩
theorem bP.trans {a b c:Shared} (x:bP a b) (y:bP b c):bP a c:=⟨fun _ _ e=>y.keep _ _ (x.keep _ _ e),y.gens.trans x.gens,y.os.trans x.os⟩
theorem bP.push (s:Shared) (o:Obj) (tk:Nat):bP s { s with heap:=s.heap.push o,toks:=tk }:=⟨fun _ _ e=>Heap.get?_push_of_some _ e,rfl,rfl⟩
theorem bP.toks (s:Shared) (tk:Nat):bP s { s with toks:=tk }:=⟨fun _ _ e=>e,rfl,rfl⟩
theorem bP.stp {ρ:List Addr} {H:List HO} {s s':Shared} (g:bP s s'):Stp ρ H s ρ H s':=.of_keep g.keep
theorem bP.inv {C:Cx} {ρ:List Addr} {H:List HO} {s s':Shared} (g:bP s s') (I:Inv C γ ρ H s):Inv C γ ρ H s':=I.of_keep g.keep g.gens g.os
theorem Inv.none_above {C:Cx} {ρ:List Addr} {H:List HO} {s:Shared} (I:Inv C γ ρ H s) {a:Addr} (h:s.heap.get? a=none):C.base.get? a=none:=by
 cases e:C.base.get? a with
 | none=>rfl
 | some o=>rw [I.base _ _ e] at h; cases h
theorem Inv.not_live {C:Cx} {ρ:List Addr} {H:List HO} {s:Shared} (I:Inv C γ ρ H s) {a:Addr} (h:s.heap.get? a=none): ¬ Nl γ ρ H a:=fun q=>by
 rcases q with q | q
 case inr=>obtain ⟨o,e⟩:=I.held a q; rw [h] at e; cases e
 obtain ⟨i,o,h1,_,_⟩:=q
 obtain ⟨o,e⟩:=I.there _ (List.mem_of_getElem? h1)
 rw [h] at e; cases e
theorem aN (h:Heap):h.get? h.objs.size=none:=by
 cases e:h.get? h.objs.size with
 | none=>rfl
 | some o=>exact absurd (Heap.lt_size e) (Nat.lt_irrefl _)
theorem kW {C:Cx} {ρ:List Addr} {H:List HO} {s s':Shared} (I:Inv C γ ρ H s) (g:bP s s') {a:Addr} {o:HO} (ha:s.heap.get? a=none):
  cF s.heap ρ (Lv ρ H) s'.heap (ρ++[a]) (Lv (ρ++[a]) (H++[o])):=
 ⟨fun _ x e _=>⟨x,g.keep _ _ e,.refl x⟩,fun b e=>(fI I.len e).imp id fun (q:b=a)=>by rw [q]; exact ha,fun i b e=>by rw [List.getElem?_append_left (List.getElem?_eq_some_iff.mp e).1]; exact e⟩
theorem Inv.snoc {C:Cx} {ρ:List Addr} {H:List HO} {s s':Shared} (I:Inv C γ ρ H s) (g:bP s s') {a:Addr} {o:HO} (ha:s.heap.get? a=none) (ha': ∃ x,s'.heap.get? a=some x)
  (r:tj C s'.heap (ρ++[a]) (Nl γ (ρ++[a]) (H++[o])) o a):Inv C γ (ρ++[a]) (H++[o]) s'∧Stp ρ H s (ρ++[a]) (H++[o]) s':=by
 have k:=kW I g (o:=o) ha
 refine ⟨⟨fun b x e=>g.keep _ _ (I.base b x e),by simp [I.len],?_,?_,?_,?_,?_,?_,fun b q=>(let ⟨o,e⟩:=I.held b q; ⟨o,g.keep _ _ e⟩),I.off,(fun b q=>let ⟨o,es,n,e,d⟩:=I.frm b q; ⟨o,es,n,g.keep _ _ e,d⟩),I.hdl' k,(fun z=>I.hq (hW z)),g.gens.trans I.gens,g.os.trans I.os⟩,⟨k⟩⟩
 ·refine List.nodup_append.mpr ⟨I.nodup,by simp,fun x hx y hy q=>?_⟩
  obtain ⟨z,hz⟩:=I.there x hx
  simp at hy; subst hy; subst q
  rw [ha] at hz; cases hz
 ·intro b hb
  rcases List.mem_append.mp hb with h | h
  ·exact I.fresh b h
  ·simp at h; subst h; exact I.none_above ha
 ·intro b hb
  rcases List.mem_append.mp hb with h | h
  ·obtain ⟨z,hz⟩:=I.there b h; exact ⟨z,g.keep _ _ hz⟩
  ·simp at h; subst h; exact ha'
 ·intro i b x e1 e2
  rcases Nat.lt_trichotomy i ρ.length with h | h | h
  ·rw [List.getElem?_append_left h] at e1
   rw [List.getElem?_append_left (I.len▸h)] at e2
   exact (I.obj i b x e1 e2).kept k.gh fun y hy=>g.keep _ _ hy
  ·subst h
   rw [List.getElem?_append_right (Nat.le_refl _)] at e1
   rw [I.len,List.getElem?_append_right (Nat.le_refl _)] at e2
   simp at e1 e2
   subst e1; subst e2
   exact r
  ·have:(ρ++[a])[i]?= none:=List.getElem?_eq_none (by rw [List.length_append,List.length_singleton]; exact h)
   rw [this] at e1; cases e1
 ·intro b hb q
  rcases List.mem_append.mp hb with h | h
  ·exact I.apart b h q
  ·simp at h; subst h; obtain ⟨o,e⟩:=I.held _ q; rw [ha] at e; cases e
 ·intro i b o' e1 q e2
  rcases Nat.lt_trichotomy i ρ.length with h | h | h
  ·rw [List.getElem?_append_left h] at e1
   rw [List.getElem?_append_left (I.len▸h)] at e2
   exact I.bor i b o' e1 q e2
  ·subst h
   rw [List.getElem?_append_right (Nat.le_refl _),Nat.sub_self] at e1
   cases e1
   obtain ⟨o,e⟩:=I.held _ (γ.bh _ q); rw [ha] at e; cases e
  ·rw [List.getElem?_eq_none (by rw [List.length_append,List.length_singleton]; exact h)] at e1; cases e1
noncomputable def cx (s:Shared) (ρ:List Addr) (N:Addr→Prop) (vs:List V) (mv:Value) (s':Shared):Prop:=
 ∃ a ms,mv=.ref a∧s.heap.get? a=none∧bP s s'∧s'.heap.PlainList a ms.toArray∧aR s.heap ρ N vs ms∧vs.length≤aA
theorem cG {h:Heap} {a:Addr} {xs:Array Value} (x:h.PlainList a xs): ∃ o,h.get? a=some o:=let ⟨_,ho⟩:=x; ⟨_,ho⟩
theorem cx.post {C:Cx} {ρ:List Addr} {st:St} {s s':Shared} {vs:List V} {Q:V→St→Prop} {mv:Value} (I:Inv C γ ρ st.H s) (h:kS vs st Q) (n:cx s ρ (Nl γ ρ st.H) vs mv s'):ef C γ ρ st s Q mv s':=by
 obtain ⟨a,ms,rfl,ha,g,hl,hr,hlen⟩:=n
 rcases h with h | h
 ·exact ⟨_,st,ρ,h,rfl,.lst hl (I.not_live ha) hlen (hr.kept g.stp.kept),g.inv I,g.stp⟩
 ·have k:=kW I g (o:=.list vs) ha
  obtain ⟨I',S'⟩:=I.snoc g (o:=.list vs) ha (cG hl) ⟨ms,hl,hr.kept k.gh,hlen⟩
  exact ⟨_,_,ρ++[a],h,rfl,.loc (by rw [← I.len]; simp),I',S'⟩
theorem mS.post {C:Cx} {ρ:List Addr} {st:St} {s s':Shared} {v:V} {Q:V→St→Prop} {mv:Value} (I:Inv C γ ρ st.H s) (h:Q v st) (n:mS s (fun mv=>Rel s.heap ρ (Nl γ ρ st.H) v mv) mv s'):ef C γ ρ st s Q mv s':=by
 obtain ⟨r,tk,rfl⟩:=n
 exact ⟨v,st,ρ,h,rfl,r,(bP.toks s tk).inv I,(bP.toks s tk).stp⟩
section
variable {C:Cx} {A:Around} {E:Value→Shared→Prop} {s:Shared} {ρ:List Addr} {N:Addr→Prop} {H:List HO}
theorem kO {vs:List V} {ms:List Value} (r:aR s.heap ρ N vs ms) (hlen:vs.length≤aA):wpAny C.M A (newList ms) (cx s ρ N vs) E s:=by
 unfold newList
 refine wpAny_newObj_type ?_ ?_
 ·exact ⟨_,ms,rfl,aN _,bP.push s _ s.toks,⟨_,Heap.get?_push_size _ rfl⟩,r,hlen⟩
 ·show ms.toArray.size≤sizeLine
  rw [ba,List.size_toArray,← r.length]; exact hlen
theorem jV {vs:List V} {ms:List Value} (I:Inv C γ ρ H s) (r:aR s.heap ρ (Nl γ ρ H) vs ms) (hlen:vs.length≤aA):
  wpAny C.M A (newTuple ms) (fun mv s'=>Rel s'.heap ρ (Nl γ ρ H) (.tup vs) mv∧bP s s') E s:=by
 unfold newTuple
 refine wpAny_newObj_type ?_ ?_
 ·have g:=bP.push s { cls:=.type "tuple",data:=.seq ms.toArray } s.toks
  exact ⟨.tup ⟨_,Heap.get?_push_size _ rfl,rfl,_,rfl⟩ (I.not_live (aN _)) hlen (r.kept g.stp.kept),g⟩
 ·show ms.toArray.size≤sizeLine
  rw [ba,List.size_toArray,← r.length]; exact hlen
theorem lY {vs:List V} {a:Addr} {ms:List Value} (hl:s.heap.PlainList a ms.toArray) (r:aR s.heap ρ N vs ms) (hlen:vs.length≤aA):wpAny C.M A (call (.type "list") [.ref a]) (cx s ρ N vs) E s:=by
 obtain ⟨o,ho,hc,n,hd⟩:=hl.isList
 refine call_list_seq (hsz:=by rw [ba,List.size_toArray,← r.length]; exact hlen) a (.inl rfl) ho hc hd fun h' c' hk hD=>?_
 ·exact ⟨_,ms,rfl,aN _,⟨hk,rfl,rfl⟩,⟨c',hD⟩,r,hlen⟩
theorem sI {a b:Addr} {xs ys:List V} {ms ns:List Value} (hl:s.heap.PlainList a ms.toArray) (hb:s.heap.PlainList b ns.toArray) (r:aR s.heap ρ N xs ms) (q:aR s.heap ρ N ys ns) (hlen:xs.length+ys.length≤16000000):
  wpAny C.M A (binaryOp .Add (.ref a) (.ref b)) (cx s ρ N (xs++ys)) E s:=by
 obtain ⟨n,ho⟩:=hl
 obtain ⟨n2,ho2⟩:=hb
 have e:ms.toArray++ns.toArray=(ms++ns).toArray:=by simp
 refine concat_meets ⟨_,ho,rfl⟩ ⟨_,ho2,rfl⟩ noFill_list_add seq_list_add PySem.F.slot_list_add PySem.F.entry_list_add (PySem.F.args_list_add_2 _ _)
  (list_addW a b ms.toArray ns.toArray n n2 none none #[] #[] ?_) ⟨ho,ho2,?_⟩
 ·rw [ba]; simp only [List.size_toArray,← r.length,← q.length,aA]; exact lin [_,_] [(1,.a (.v 0) (.v 1),.n 16000000)] 1 (.a (.v 0) (.v 1)) (.n 16777216) rfl hlen
 ·rw [e]
  exact ⟨_,ms++ns,rfl,aN _,bP.push s _ s.toks,⟨_,Heap.get?_push_size _ rfl⟩,r.append q,by simp only [List.length_append,aA]; exact lin [_,_] [(1,.a (.v 0) (.v 1),.n 16000000)] 1 (.a (.v 0) (.v 1)) (.n 16777216) rfl hlen⟩
theorem lX {n:Int} {t:Tok} (I:Inv C γ ρ H s):wpAny C.M A (call (.type "range") [.int n t]) (fun mv s'=>Rel s'.heap ρ (Nl γ ρ H) (.rng 0 n 1) mv∧bP s s') E s:=
 call_range_1 ⟨.rng (IsRange.new ..) (I.not_live (aN _)),bP.push s _ _⟩
theorem lW {a b:Int} {t u:Tok} (I:Inv C γ ρ H s):wpAny C.M A (call (.type "range") [.int a t,.int b u]) (fun mv s'=>Rel s'.heap ρ (Nl γ ρ H) (.rng a b 1) mv∧bP s s') E s:=
 call_range_2 ⟨.rng (IsRange.new ..) (I.not_live (aN _)),bP.push s _ _⟩
end
section
variable {C:Cx} {A:Around} {E:Value→Shared→Prop} {s:Shared} {ρ:List Addr} {H:List HO}
theorem fL {k:Int} {n:Nat} (h0:0≤k) (h:k.toNat < n):seqIndex? k n=some k.toNat:=by
 unfold seqIndex?
 have h1: ¬ k < 0:=by exact Int.not_lt.mpr h0
 simp only [h1,if_false]
 simp
 lia
theorem small {xs:List V} {i:Int} {x:V} (hl:xs.length≤aA) (he:xs[i.toNat]?= some x):i < 2 ^ 63:=by
 have:=(List.getElem?_eq_some_iff.mp he).1
 unfold aA at hl; lia
theorem sH {value slice:Expr} {va vi v:V} {ma mi:Value} (I:Inv C γ ρ H s) (e:Idx H va vi v) (ra:Rel s.heap ρ (Nl γ ρ H) va ma) (ri:Rel s.heap ρ (Nl γ ρ H) vi mi):
  wpAny C.M A (subscriptTail value slice ma mi) (mS s fun mv=>Rel s.heap ρ (Nl γ ρ H) v mv) E s:=by
 cases e with
 | @seq _ _ _ i w h0 hx=>
  obtain ⟨u,rfl⟩:=ri.int_inv
  obtain ⟨a,ms,rfl,hl,hr,hlen⟩:=I.view ra w
  obtain ⟨m,hm,hrm⟩:=hr.get hx
  exact fx hl.isList.typeIs slot_list_getitem.lookup (wpAny_getItem_list hl.isList h0 (small hlen hx) (by rw [List.getElem?_toArray]; exact hm) (.now hrm))
 | @tup _ _ i h0 hx=>
  obtain ⟨u,rfl⟩:=ri.int_inv
  obtain ⟨a,ms,rfl,hl,_,hlen,hr⟩:=ra.tup_inv
  obtain ⟨m,hm,hrm⟩:=hr.get hx
  exact fx (T:= "tuple") (let ⟨o,ho,hc,_⟩:=hl; ⟨o,ho,hc⟩) slot_tuple_getitem.lookup (getItem_tuple (items:=_) hl (Int.le_trans (by decide) h0) (small hlen hx) (j:=i.toNat) (fL h0 (by rw [List.size_toArray]; exact (List.getElem?_eq_some_iff.mp hm).1)) (by rw [List.getElem?_toArray]; exact hm) (.now hrm))
 | @str cs c i h0 hx=>
  obtain ⟨u,rfl⟩:=ri.int_inv
  obtain ⟨t,rfl,hlen,ha⟩:=ra.str_inv
  have hlt:=(List.getElem?_eq_some_iff.mp hx).1
  refine fx (typeIs_str _ _ _) F.slot_str_getitem.lookup (P.getItem_str (c:=c) ?_ ?_ ⟨?_,_,rfl⟩)
  ·unfold aA at hlen; simp; lia
  ·rw [bu,fL h0 hlt]; simpa using hx
  ·exact .str (cs:=[c]) _ (show 1≤16777216 by decide) fun x hc=>by rw [List.mem_singleton.mp hc]; exact ha c (List.mem_of_getElem? hx)
 | @keyS k _ i kvs h hl=>
  obtain ⟨t,rfl,_⟩:=ri.str_inv
  obtain ⟨a,rfl,ha⟩:=ra.loc_inv
  obtain ⟨ms,hd,hr,_⟩:=I.obj _ a _ ha h
  have g:=hr.get fq k
  rw [hl] at g
  obtain ⟨mv,g1,g2⟩:=g
  exact fx hd.typeIs slot_dict_getitem.lookup (wpAny_getItem_of (strKind_is _ _ (sOf k) t) hd.mapOf g1 ⟨g2,_,rfl⟩)
theorem sF {v:V} {n:Nat} {m:Value} (I:Inv C γ ρ H s) (e:zZ H v n) (q:Rel s.heap ρ (Nl γ ρ H) v m):
  wpAny C.M A (call (.builtin "len") [m]) (mS s fun mv=>Rel s.heap ρ (Nl γ ρ H) (.int n) mv) E s:=by
 cases e with
 | str cs=>
  obtain ⟨t,rfl,hlen,_⟩:=q.str_inv
  exact P.len_str (by rw [bu]; unfold aA at hlen; lia) ⟨by rw [bu]; exact .int _ _,_,rfl⟩
 | tup vs=>
  obtain ⟨a,ms,rfl,hl,_,hlen,hr⟩:=q.tup_inv
  exact len_tuple hl (by rw [List.size_toArray,← hr.length]; unfold aA at hlen; lia) ⟨by rw [List.size_toArray,← hr.length]; exact .int _ _,_,rfl⟩
 | seq w=>
  obtain ⟨a,ms,rfl,hl,hr,hlen⟩:=I.view q w
  exact len_list hl.isList (by rw [List.size_toArray,← hr.length]; unfold aA at hlen; lia) ⟨by rw [List.size_toArray,← hr.length]; exact .int _ _,_,rfl⟩
end
noncomputable def tyNames:List String:=["int", "bool", "str", "list", "tuple"]
theorem eu {T:String} (h:T∈tyNames):typeOf (.type T)=pure (.type "type"):=by
 simp only [tyNames,List.mem_cons,List.not_mem_nil,or_false] at h
 rcases h with rfl | rfl | rfl | rfl | rfl
 ·exact F.isi_meta_int
 ·exact F.isi_meta_bool
 ·exact F.isi_meta_str
 ·exact F.isi_meta_list
 ·exact F.isi_meta_tuple
theorem gW {X T:String} (hX:X∈("NoneType" ::tyNames)) (h:T∈tyNames):isSubtype (.type X) (.type T)=pure (rT X T):=by
 simp only [tyNames,List.mem_cons,List.not_mem_nil,or_false] at h hX
 rcases h with rfl | rfl | rfl | rfl | rfl<;>rcases hX with rfl | rfl | rfl | rfl | rfl | rfl<;>(rw [isSubtype_type]; kernel_rfl)
section
variable {C:Cx} {A:Around} {E:Value→Shared→Prop} {s:Shared} {ρ:List Addr} {H:List HO}
theorem cK {X T:String} (h:rT X T=false):(Value.type X == Value.type T)=false:=by
 cases q:(Value.type X == Value.type T) with
 | false=>rfl
 | true=>
  have e:=beq_iff_eq.mp q
  injection e with e
  subst e
  simp [rT] at h
theorem sG {v:V} {X T:String} {m:Value} (I:Inv C γ ρ H s) (hT:T∈tyNames) (e:rX H v X) (r:Rel s.heap ρ (Nl γ ρ H) v m):
  wpAny C.M A (call (.builtin "isinstance") [m,.type T]) (mS s fun mv=>Rel s.heap ρ (Nl γ ρ H) (.bool (rT X T)) mv) E s:=by
 have fin:X∈ "NoneType" ::tyNames→s.TypeIs m X→(rT X T=false→wpAny C.M A (call (.builtin "isinstance") [m,.type T]) (mS s fun mv=>Rel s.heap ρ (Nl γ ρ H) (.bool false) mv) E s)→
   wpAny C.M A (call (.builtin "isinstance") [m,.type T]) (mS s fun mv=>Rel s.heap ρ (Nl γ ρ H) (.bool (rT X T)) mv) E s:=fun hX hx no=>by
  cases hb:rT X T with
  | true=>exact call_isinstance (isinstance_true (Tx:=X) (eu hT) (by rw [gW hX hT,hb])) ⟨hx,.now (.bool _)⟩
  | false=>exact no hb
 cases e with
 | int i=>obtain ⟨t,rfl⟩:=r.int_inv; exact fin (by decide) (typeIs_int ..) fun q=>call_isinstance (isinstance_false_int (cK q) (eu hT) (by rw [gW (by decide) hT,q])) (.now (.bool _))
 | bool b=>obtain rfl:=r.bool_inv; exact fin (by decide) rfl fun q=>call_isinstance (isinstance_false_bool (cK q) (eu hT) (by rw [gW (by decide) hT,q])) (.now (.bool _))
 | str cs=>obtain ⟨t,rfl,_⟩:=r.str_inv; exact fin (by decide) (typeIs_str ..) fun q=>call_isinstance (isinstance_false_str (cK q) (eu hT) (by rw [gW (by decide) hT,q])) (.now (.bool _))
 | none=>obtain rfl:=r.none_inv; exact fin (by decide) rfl fun q=>call_isinstance (isinstance_false_none (cK q) (eu hT) (by rw [gW (by decide) hT,q])) (.now (.bool _))
 | tup vs=>
  obtain ⟨a,ms,rfl,⟨o,ho,hc,_⟩,_⟩:=r.tup_inv
  exact fin (by decide) ⟨o,ho,hc⟩ fun q=>call_isinstance (isinstance_false_tuple (cK q) (eu hT) (by rw [gW (by decide) hT,q])) ⟨⟨o,ho,hc⟩,.now (.bool _)⟩
 | seq w=>
  obtain ⟨a,ms,rfl,hl,_⟩:=I.view r w
  obtain ⟨o,ho,hc,_⟩:=hl.isList
  exact fin (by decide) ⟨o,ho,hc⟩ fun q=>call_isinstance (isinstance_false_list (cK q) (eu hT) (by rw [gW (by decide) hT,q])) ⟨⟨o,ho,hc⟩,.now (.bool _)⟩
theorem lU {i:Int} {t:Tok} (h:i.natAbs < 10 ^ 100):wpAny C.M A (call (.type "str") [.int i t]) (mS s fun mv=>Rel s.heap ρ (Nl γ ρ H) (.str (aw i)) mv) E s:=by
 have hl:i.natAbs.log2 < 1920:=by
  by_cases h0:i.natAbs=0
  ·rw [h0]; decide
  ·exact (Nat.log2_lt h0).mpr (Nat.lt_trans h (by decide +kernel))
 refine P.str_of_int hl ⟨?_,_,rfl⟩
 have e:Str.ofString (toString i)=⟨(aw i).toArray⟩:=by rw [Str.ofString_eq_toList]; rfl
 rw [e]
 have fits:=int_text_fits hl
 rw [e] at fits
 refine .str _ (by rw [← ba]; simpa [Str.length] using fits) fun c hc=>?_
 unfold aw at hc
 obtain ⟨ch,hch,rfl⟩:=List.mem_map.mp hc
 exact int_ascii i ch hch
theorem kP {b:Bool}:wpAny C.M A (call (.type "int") [.bool b]) (mS s fun mv=>Rel s.heap ρ (Nl γ ρ H) (.int (if b then 1 else 0)) mv) E s:=
 call_int_bool ⟨.int _ _,_,rfl⟩
end
theorem jk {h:Heap} {ρ:List Addr} {N:Addr→Prop}:(∀ {v:V} {m:Value},Rel h ρ N v m→∀ n:Nat,pl n v=true→(∃ as,Reads h m (pF v) as)∧(pF v).canLay0=true∧(pF v).depth≤n)∧
  ∀ {vs:List V} {ms:List Value},aR h ρ N vs ms→∀ n:Nat,vs.all (pl n)=true→(∃ as,ReadsAll h ms (jO vs) as)∧PyData.canLayAll0 (jO vs)=true∧PyData.depthAll (jO vs)≤n:=
 Rel.both (fun n _=>⟨⟨_,.none⟩,rfl,Nat.zero_le n⟩) (fun b n _=>⟨⟨_,.bool b⟩,rfl,Nat.zero_le n⟩) (fun i t n _=>⟨⟨_,.int i t⟩,rfl,Nat.zero_le n⟩)
  (fun {cs} t _ ha n _=>⟨⟨_,.str _ t⟩,by
   simp only [pF,PyData.canLay0,PyData.strOk]
   rw [← Array.all_toList]
   simp only [List.all_eq_true]
   intro c hc
   have:=ha c hc
   simp; exact lin [c] [(1,.a (.v 0) (.n 1),.n 128)] 1 (.a (.v 0) (.n 1)) (.n 1114112) rfl this,Nat.zero_le n⟩)
  (fun ⟨o,ho,hc,_,hd⟩ _ _ r n e=>by
   cases n with
   | zero=>cases e
   | succ n=>obtain ⟨⟨as,x⟩,h1,h2⟩:=r n e; exact ⟨⟨_,.tuple ho hc hd x⟩,h1,by simp only [pF,PyData.depth]; exact li [_,n] [([1],[2])] [1,0] [2,0] rfl h2⟩)
  (fun ⟨_,ho⟩ _ _ r n e=>by
   cases n with
   | zero=>cases e
   | succ n=>obtain ⟨⟨as,x⟩,h1,h2⟩:=r n e; exact ⟨⟨_,.list ho rfl rfl x⟩,h1,by simp only [pF,PyData.depth]; exact li [_,n] [([1],[2])] [1,0] [2,0] rfl h2⟩)
  (fun _ _ n e=>by cases n<;>cases e) (fun _ n e=>by cases n<;>cases e) (fun n _=>⟨⟨_,.nil⟩,rfl,Nat.zero_le n⟩) fun a r n e=>by
   obtain ⟨e1,e2⟩:=Bool.and_eq_true_iff.mp e
   obtain ⟨⟨as,x⟩,a1,a2⟩:=a n e1
   obtain ⟨⟨bs,y⟩,r1,r2⟩:=r n e2
   refine ⟨⟨_,.cons x y⟩,?_⟩
   simp only [jO,PyData.canLayAll0,PyData.depthAll,a1,r1,Bool.and_self,true_and]
   lia
theorem dh {C:Cx} {ρ:List Addr} {H:List HO} {s:Shared} (I:Inv C γ ρ H s) {v v':V} {m:Value} (r:Rel s.heap ρ (Nl γ ρ H) v m) (d:mU H v v') (e:pl 6 v'=true):(∃ as,Reads s.heap m (pF v') as)∧shaped (pF v')=true:=by
 cases d with
 | self _=>
  obtain ⟨h1,h2,h3⟩:=jk.1 r 6 e
  exact ⟨h1,by rw [shaped,h2,Bool.true_and,decide_eq_true_eq]; exact lin [_] [(1,.v 0,.n 6)] 1 (.v 0) (.n 64) rfl h3⟩
 | loc h=>
  obtain ⟨a,ms,rfl,hl,hr,hlen⟩:=I.view r (.loc h)
  obtain ⟨o,ho,hc,k,hd⟩:=hl.isList
  obtain ⟨⟨as,x⟩,h1,h2⟩:=jk.2 hr 5 e
  refine ⟨⟨_,.list ho hc hd x⟩,?_⟩
  simp only [shaped,pF,PyData.canLay0,PyData.depth,h1,Bool.true_and,decide_eq_true_eq]; exact lin [_] [(1,.v 0,.n 5)] 1 (.a (.v 0) (.n 1)) (.n 64) rfl h2
theorem kI (a b:List Nat):((⟨a.toArray⟩:Str) == ⟨b.toArray⟩)=(a == b):=by
 rw [Bool.eq_iff_iff]
 simp
section
variable {C:Cx} {A:Around} {E:Value→Shared→Prop} {s:Shared} {ρ:List Addr} {H:List HO}
theorem Rel.not_none {h:Heap} {N:Addr→Prop} {v:V} {m:Value} (r:Rel h ρ N v m) (hv:v≠.none):m≠.none:=by
 cases r<;>first | exact absurd rfl hv | (intro x; cases x)
theorem qp {va vb:V} {r:Bool} {ma mb:Value} (I:Inv C γ ρ H s) (hu:A.units+65 < cLine) (e:InR H va vb r) (ra:Rel s.heap ρ (Nl γ ρ H) va ma) (rb:Rel s.heap ρ (Nl γ ρ H) vb mb):
  (∀ Q:Value→Shared→Prop,(∀ tk,Q (.bool r) { s with toks:=tk })→wpAny C.M A (compareOp .In ma mb) Q E s)∧∀ Q:Value→Shared→Prop,(∀ tk,Q (.bool !r) { s with toks:=tk })→wpAny C.M A (compareOp .NotIn ma mb) Q E s:=by
 cases e with
 | sign c cs=>
  obtain ⟨t,rfl,_⟩:=ra.str_inv
  obtain ⟨u,rfl,_⟩:=rb.str_inv
  have q:=StrLaws.found_one ⟨cs.toArray⟩ c
  exact ⟨fun Q hq=>P.in_str (by rw [show (⟨[c].toArray⟩:Str)=⟨#[c]⟩ from rfl,q]; exact hq s.toks),fun Q hq=>P.notIn_str (by rw [show (⟨[c].toArray⟩:Str)=⟨#[c]⟩ from rfl,q]; exact hq s.toks)⟩
 | @keyS k i kvs h=>
  obtain ⟨t,rfl,_⟩:=ra.str_inv
  obtain ⟨a,rfl,ha⟩:=rb.loc_inv
  obtain ⟨ms,hd,hr,⟨_,hm⟩,_⟩:=I.obj _ a _ ha h
  have q:=hr.has fq k
  exact ⟨fun Q hq=>wpAny_in_of (strKind_is _ _ (sOf k) t) (beq_eq_false_iff_ne.mpr hm) hd.mapOf (by rw [q]; exact hq _),fun Q hq=>wpAny_notIn_of (strKind_is _ _ (sOf k) t) (beq_eq_false_iff_ne.mpr hm) hd.mapOf (by rw [q]; exact hq _)⟩
theorem dT {op:CmpOp} {va vb:V} {r:Bool} {ma mb:Value} (I:Inv C γ ρ H s) (hu:A.units+65 < cLine) (e:Cmp H op va vb r) (ra:Rel s.heap ρ (Nl γ ρ H) va ma) (rb:Rel s.heap ρ (Nl γ ρ H) vb mb):
  wpAny C.M A (compareOp op ma mb) (mS s fun mv=>mv=.bool r) E s:=by
 cases e with
 | lt a b=>obtain ⟨t,rfl⟩:=ra.int_inv; obtain ⟨u,rfl⟩:=rb.int_inv; exact P.lt_int ⟨rfl,_,rfl⟩
 | le a b=>obtain ⟨t,rfl⟩:=ra.int_inv; obtain ⟨u,rfl⟩:=rb.int_inv; exact P.le_int ⟨rfl,_,rfl⟩
 | gt a b=>obtain ⟨t,rfl⟩:=ra.int_inv; obtain ⟨u,rfl⟩:=rb.int_inv; exact P.gt_int ⟨rfl,_,rfl⟩
 | ge a b=>obtain ⟨t,rfl⟩:=ra.int_inv; obtain ⟨u,rfl⟩:=rb.int_inv; exact P.ge_int ⟨rfl,_,rfl⟩
 | geS a b=>
  obtain ⟨t,rfl,_⟩:=ra.str_inv; obtain ⟨u,rfl,_⟩:=rb.str_inv
  refine P.ge_str ⟨?_,_,rfl⟩
  show Value.bool (!decide (a < b))=_
  rw [show (!decide (a < b))=decide (b≤a) by rw [Bool.eq_iff_iff]; simp]
 | eq d1 d2 p1 p2=>
  obtain ⟨⟨as,xa⟩,sa⟩:=dh I ra d1 p1
  obtain ⟨⟨bs,xb⟩,sb⟩:=dh I rb d2 p2
  exact eq_dataH xa xb sa sb (Nat.lt_of_succ_lt hu) ⟨rfl,_,rfl⟩
 | ne d1 d2 p1 p2=>
  obtain ⟨⟨as,xa⟩,sa⟩:=dh I ra d1 p1
  obtain ⟨⟨bs,xb⟩,sb⟩:=dh I rb d2 p2
  exact ne_dataH xa xb sa sb (Nat.lt_of_succ_lt hu) ⟨rfl,_,rfl⟩
 | is h=>
  obtain rfl:mb=.none:=by cases h<;>exact rb.none_inv
  cases h with
  | nn=>rw [ra.none_inv]; exact is_none_none ⟨rfl,_,rfl⟩
  | xn h=>exact is_none_ne (ra.not_none h) ⟨rfl,_,rfl⟩
 | isNot h=>
  obtain rfl:mb=.none:=by cases h<;>exact rb.none_inv
  cases h with
  | nn=>rw [ra.none_inv]; exact isnot_none_none ⟨rfl,_,rfl⟩
  | xn h=>exact isnot_none_ne (ra.not_none h) ⟨rfl,_,rfl⟩
 | inn h=>exact (qp I hu h ra rb).1 _ fun tk=>⟨rfl,tk,rfl⟩
 | nin h=>exact (qp I hu h ra rb).2 _ fun tk=>⟨rfl,tk,rfl⟩
end
theorem fH (n:Nat) (i:Int):min (cut n i) n=clipAt n i:=by
 have h:=clipAt_cast n i
 unfold cut
 split at h<;>rename_i h1
 ·rw [if_pos h1]; lia
 ·rw [if_neg h1]; lia
theorem gZ {α:Type} (xs:List α) (lo hi:Nat):slice xs lo hi=(xs.drop (min lo xs.length)).take (min hi xs.length - min lo xs.length):=by
 unfold slice
 rw [List.drop_take]
 rcases Nat.le_total lo xs.length with h | h
 ·rw [Nat.min_eq_left h]
  rcases Nat.le_total hi xs.length with h' | h'
  ·rw [Nat.min_eq_left h']
  ·rw [Nat.min_eq_right h',List.take_of_length_le (by simp; exact li [_,_,lo,hi] [([1],[4]),([4],[2,3])] [1] [2,3] rfl h' (l_g _ _)),List.take_of_length_le (by simp)]
 ·rw [Nat.min_eq_right h,List.drop_eq_nil_of_le h,List.drop_eq_nil_of_le (Nat.le_refl _)]
  simp
theorem hF (ms:List Value) (lo hi:Option Int):slicePick ms.toArray lo hi none=(slice ms (gk ms.length lo) (gF ms.length hi)).toArray:=by
 rw [slicePick_plain,gZ]
 simp only [List.size_toArray]
 congr 1
 have e1:lo.elim 0 (clipAt ms.length)=min (gk ms.length lo) ms.length:=by
  cases lo with
  | none=>simp [gk]
  | some i=>exact (fH _ _).symm
 have e2:hi.elim ms.length (clipAt ms.length)=min (gF ms.length hi) ms.length:=by
  cases hi with
  | none=>simp [gF]
  | some i=>exact (fH _ _).symm
 rw [e1,e2]
theorem kQ (cs:List Nat) (l u:Option (Int×Tok)):
  slicePicked ⟨cs.toArray⟩ l u none=(List.range (min (gF cs.length (u.map (·.1))) cs.length - min (gk cs.length (l.map (·.1))) cs.length)).map (min (gk cs.length (l.map (·.1))) cs.length+ ·):=by
 rw [← sliceRange_one]
 have hlen:=bu cs
 have c: ∀ i:Int,max 0 (min (if i < 0 then i+(cs.length:Int) else i) cs.length)=((min (cut cs.length i) cs.length:Nat):Int):=fun i=>by rw [fH,clipAt_cast]
 unfold slicePicked
 rw [hlen]
 show strSliceIndices _ _ 1 _=_
 unfold strSliceIndices
 cases l<;>cases u<;>simp only [show ((1:Int) > 0)=True from by simp,if_true,Option.map_none,Option.map_some,c,gk,gF,Option.elim_none,Option.elim_some]<;>congr 1<;>simp
theorem jR (cs:List Nat) (l u:Option (Int×Tok)):(slicePicked ⟨cs.toArray⟩ l u none).filterMap (cs.toArray[·]?)=slice cs (gk cs.length (l.map (·.1))) (gF cs.length (u.map (·.1))):=by
 rw [gZ,kQ,pick_run]
section
variable {C:Cx} {A:Around} {E:Value→Shared→Prop} {s:Shared} {ρ:List Addr} {H:List HO}
theorem dA {α:Type} (xs:List α) (lo hi:Nat):(slice xs lo hi).length≤xs.length:=by
 unfold slice; simp; exact li [_,_,lo] [([1],[2])] [1] [2,3] rfl (Nat.min_le_right _ _)
theorem qx {α:Type} {xs:List α} {lo hi:Nat} {x:α} (h:x∈slice xs lo hi):x∈xs:=List.mem_of_mem_take (List.mem_of_mem_drop h)
theorem aR.slice {h:Heap} {ρ:List Addr} {N:Addr→Prop} {vs:List V} {ms:List Value} (r:aR h ρ N vs ms) (lo hi:Nat):aR h ρ N (Mine.slice vs lo hi) (Mine.slice ms lo hi):=(r.take hi).drop lo
noncomputable def ly (v:Option V) (m:Value) (i:Option Int):Prop:=(v=none∧m=.none∧i=none)∨∃ k t,v=some (.int k)∧m=.int k t∧i=some k
theorem ja {value slice:Expr} {cs:List Nat} {t:Tok} {vl vu:Option V} {ml mu:Value} {lo hi:Option Int} (hlen:cs.length≤aA) (ha: ∀ c∈cs,c < 128) (pl:ly vl ml lo) (pu:ly vu mu hi):
  wpAny C.M A (subscriptTail value slice (.str ⟨cs.toArray⟩ t) (.ref s.heap.objs.size)) (fun mv s'=>Rel s.heap ρ (Nl γ ρ H) (.str (Mine.slice cs (gk cs.length lo) (gF cs.length hi))) mv∧bP s s') E
   { s with heap:=s.heap.push { cls:=.type "slice",data:=.fields #[ml,mu,.none]}}:=by
 obtain ⟨l,e1,e2⟩: ∃ l:Option (Int×Tok),ml=partValue l∧lo=l.map (·.1):=by
  rcases pl with ⟨_,rfl,rfl⟩ | ⟨k,t,_,rfl,rfl⟩
  ·exact ⟨none,rfl,rfl⟩
  ·exact ⟨some (k,t),rfl,rfl⟩
 obtain ⟨u,f1,f2⟩: ∃ l:Option (Int×Tok),mu=partValue l∧hi=l.map (·.1):=by
  rcases pu with ⟨_,rfl,rfl⟩ | ⟨k,t,_,rfl,rfl⟩
  ·exact ⟨none,rfl,rfl⟩
  ·exact ⟨some (k,t),rfl,rfl⟩
 subst e1 e2 f1 f2
 refine fx (typeIs_str _ _ _) F.slot_str_getitem.lookup (wpAny_getItem_str_slice (l:=l) (u:=u) (st:=none) ⟨_,Heap.get?_push_size _ rfl,rfl,rfl⟩ rfl ?_)
 have key:=jR cs l u
 unfold sliceMade
 split
 ·rename_i hc
  refine ⟨?_,bP.push s _ s.toks⟩
  have hx:=bu cs
  simp only [Bool.and_eq_true,beq_iff_eq] at hc
  have:Mine.slice cs (gk cs.length (l.map (·.1))) (gF cs.length (u.map (·.1)))=cs:=by
   rw [← key]
   unfold Mine.slice at key
   have h2:=hc.2
   rw [hx] at h2
   have h3:(slicePicked ⟨cs.toArray⟩ l u none).filterMap (cs.toArray[·]?)=cs:=by
    rw [key]
    have hl:((List.take (gF cs.length (u.map (·.1))) cs).drop (gk cs.length (l.map (·.1)))).length=cs.length:=by
     have k1:=kQ cs l u
     rw [k1,List.length_map,List.length_range] at h2
     have k2:=gZ cs (gk cs.length (l.map (·.1))) (gF cs.length (u.map (·.1)))
     unfold Mine.slice at k2
     rw [k2,List.length_take,List.length_drop]
     exact l_a (li [_,_,_] [([3],[2]),([1],[3])] [1] [2] rfl (Nat.sub_le _ _) (Nat.min_le_right _ _)) (li [_,_,_] [([1],[3]),([3],[2])] [1] [2] rfl (l_s h2) (l_m (li [_,_,_,_,_] [([3],[2,4]),([5],[3]),([1,4],[5])] [1] [2] rfl (l_g _ _) (Nat.min_le_right _ _) (l_d (li [_,_,_,_] [([3],[4]),([4],[2]),([1],[3])] [1] [2] rfl (l_s h2) (Nat.sub_le _ _) (Nat.min_le_right _ _))))))
    have hs:((List.take (gF cs.length (u.map (·.1))) cs).drop (gk cs.length (l.map (·.1)))).Sublist cs:=(List.drop_sublist _ _).trans (List.take_sublist _ _)
    exact hs.eq_of_length hl
   exact h3
  rw [this]
  exact .str _ hlen ha
 ·refine ⟨?_,?_,?_⟩
  ·show (((slicePicked ⟨cs.toArray⟩ l u none).filterMap (cs.toArray[·]?)).toArray).size≤sizeLine
   rw [key,ba,List.size_toArray]
   exact Nat.le_trans (dA _ _ _) hlen
  ·show Rel _ _ _ _ (Value.str ⟨((slicePicked ⟨cs.toArray⟩ l u none).filterMap (cs.toArray[·]?)).toArray⟩ _)
   rw [key]
   exact .str _ (Nat.le_trans (dA _ _ _) hlen) fun c hc=>ha c (qx hc)
  ·exact bP.push s _ _
end
section
variable {C:Cx} {A:Around} {E:Value→Shared→Prop} {s:Shared} {ρ:List Addr} {N:Addr→Prop} {H:List HO}
theorem hU {value slice:Expr} {a:Addr} {xs:List V} {ms:List Value} {vl vu:Option V} {ml mu:Value} {lo hi:Option Int} (hl:s.heap.PlainList a ms.toArray) (r:aR s.heap ρ N xs ms) (hlen:xs.length≤aA)
  (pl:ly vl ml lo) (pu:ly vu mu hi):
  wpAny C.M A (subscriptTail value slice (.ref a) (.ref s.heap.objs.size)) (cx s ρ N (Mine.slice xs (gk xs.length lo) (gF xs.length hi))) E
   { s with heap:=s.heap.push { cls:=.type "slice",data:=.fields #[ml,mu,.none]}}:=by
 have il:IsPart ml lo:=by
  rcases pl with ⟨_,rfl,rfl⟩ | ⟨k,t,_,rfl,rfl⟩
  ·exact .none
  ·exact .int k t
 have iu:IsPart mu hi:=by
  rcases pu with ⟨_,rfl,rfl⟩ | ⟨k,t,_,rfl,rfl⟩
  ·exact .none
  ·exact .int k t
 refine fx (T:= "list") (hl.isList.push _).typeIs slot_list_getitem.lookup (wpAny_getItem_list_slice (hl.isList.push _) (Heap.IsSliceOf.new ..) il iu .none (by simp) ?_ (by rw [ba,List.size_toArray,← r.length]; exact hlen))
 have g1:=bP.push s { cls:=.type "slice",data:=.fields #[ml,mu,.none]} s.toks
 have g2:=bP.push { s with heap:=s.heap.push { cls:=.type "slice",data:=.fields #[ml,mu,.none]}} { cls:=.type "list",data:=.seq (slicePick ms.toArray lo hi none)} s.toks
 have hf:s.heap.get? (s.heap.push { cls:=.type "slice",data:=.fields #[ml,mu,.none]}).objs.size=none:=by
  rw [Heap.size_push]
  cases e:s.heap.get? (s.heap.objs.size+1) with
  | none=>rfl
  | some o=>exact absurd (Heap.lt_size e) (Nat.not_lt.mpr (Nat.le_succ _))
 refine ⟨_,Mine.slice ms (gk ms.length lo) (gF ms.length hi),rfl,hf,g1.trans g2,⟨0,?_⟩,?_,?_⟩
 ·rw [hF]; exact Heap.get?_push_size _ rfl
 ·rw [r.length]; exact r.slice _ _
 ·exact Nat.le_trans (dA _ _ _) hlen
end
end
noncomputable section
open PySem PyProof.Rows
variable {γ:Gh}
noncomputable def kd (sc:Scope) (x:String):Option NameKind:=sc.names.lookup (x:Str)
noncomputable def wd (sc:Scope) (x:String):Bool:=kd sc x == some .local || kd sc x == some .cell || kd sc x == some .free
noncomputable def cf (sc:Scope) (x:String):Bool:=kd sc x == some .globalImplicit && !((x:Str) == ("__debug__" :Str))
noncomputable def bE:Expr→Bool
 | .Set ..=>true
 | _=>false
noncomputable def bq (e:Expr):Bool:=
 match e with
 | .Starred _ _=>false
 | .Call (.Name _ _) es _ _=>!es.isEmpty
 | _=>true
structure At (C:Cx) (γ:Gh) (env:Env) (ρ₀:List Addr) (st₀:St) (s₀:Shared) (ρ:List Addr) (st:St) (s:Shared):Prop where
 inv:Inv C γ ρ st.H s
 fra:Fra γ env st ρ s
 stp:Stp ρ₀ st₀.H s₀ ρ st.H s
 same:st.s=st₀.s
theorem At.start {C:Cx} {env:Env} {ρ:List Addr} {st:St} {s:Shared} (I:Inv C γ ρ st.H s) (F:Fra γ env st ρ s):At C γ env ρ st s ρ st s:=⟨I,F,.refl ..,rfl⟩
section
variable {C:Cx} {env:Env} {ρ₀:List Addr} {st₀:St} {s₀:Shared} {ρ:List Addr} {st:St} {s s':Shared} {Q:V→St→Prop} {mv:Value}
theorem At.post {v:V} (a:At C γ env ρ₀ st₀ s₀ ρ st s) (h:Q v st) (r:Rel s.heap ρ (Nl γ ρ st.H) v mv):ef C γ ρ₀ st₀ s₀ Q mv s:=⟨v,st,ρ,h,a.same,r,a.inv,a.stp⟩
theorem At.thenPost (a:At C γ env ρ₀ st₀ s₀ ρ st s) (p:ef C γ ρ st s Q mv s'):ef C γ ρ₀ st₀ s₀ Q mv s':=p.step a.stp a.same
theorem At.grew (a:At C γ env ρ₀ st₀ s₀ ρ st s) (g:bP s s'):At C γ env ρ₀ st₀ s₀ ρ st s':=⟨g.inv a.inv,a.fra.step g.stp rfl,a.stp.trans g.stp,a.same⟩
theorem At.sameP {v:V} (a:At C γ env ρ₀ st₀ s₀ ρ st s) (h:Q v st) (p:mS s (fun mv=>Rel s.heap ρ (Nl γ ρ st.H) v mv) mv s'):ef C γ ρ₀ st₀ s₀ Q mv s':=a.thenPost (p.post a.inv h)
theorem At.newP {vs:List V} (a:At C γ env ρ₀ st₀ s₀ ρ st s) (h:kS vs st Q) (p:cx s ρ (Nl γ ρ st.H) vs mv s'):ef C γ ρ₀ st₀ s₀ Q mv s':=a.thenPost (p.post a.inv h)
theorem At.grewP {v:V} (a:At C γ env ρ₀ st₀ s₀ ρ st s) (h:Q v st) (p:Rel s'.heap ρ (Nl γ ρ st.H) v mv∧bP s s'):ef C γ ρ₀ st₀ s₀ Q mv s':=(a.grew p.2).post h p.1
end
section
variable (C:Cx) (k:Nat) (sc:Scope)
noncomputable def SE (e:E) (pe:Expr):Prop:=∀ (env:Env) (A:Around) (s:Shared) (γ:Gh) (ρ:List Addr) (st:St) (Q:V→St→Prop) (X:String→St→Prop),env.scope=sc→bO (2*k+1) A γ→Inv C γ ρ st.H s→Fra γ env st ρ s→
 wE (Calls C k) C.glo e st Q X→wpAny C.M A (eval pe env) (ef C γ ρ st s Q) (bt C γ ρ st s X) s
noncomputable def wH (γ:Gh) (ρ:List Addr) (st:St) (s:Shared) (Q:Bool→St→Prop) (b:Bool) (s':Shared):Prop:=∃ st' ρ',Q b st'∧st'.s=st.s∧Inv C γ ρ' st'.H s'∧Stp ρ st.H s ρ' st'.H s'
noncomputable def ST (e:E) (pe:Expr):Prop:=∀ (env:Env) (A:Around) (s:Shared) (γ:Gh) (ρ:List Addr) (st:St) (Q:Bool→St→Prop) (X:String→St→Prop),env.scope=sc→bO (2*k+1) A γ→Inv C γ ρ st.H s→Fra γ env st ρ s→
 wT (Calls C k) C.glo e st Q X→wpAny C.M A (isTrue pe env (eval pe env)) (wH C γ ρ st s Q) (bt C γ ρ st s X) s
noncomputable def DR (γ:Gh) (n:Nat) (ρ:List Addr) (st:St) (s:Shared) (Q:List V→St→Prop) (ms:List Value) (s':Shared):Prop:=
 ms.length=n∧∃ vs st' ρ',Q vs st'∧st'.s=st.s∧aR s'.heap ρ' (Nl γ ρ' st'.H) vs ms∧Inv C γ ρ' st'.H s'∧Stp ρ st.H s ρ' st'.H s'
noncomputable def SEs (es:Es) (pes:List Expr):Prop:=(∀ pe∈pes,bq pe=true)∧∀ (pos:Pos) (env:Env) (A:Around) (s:Shared) (γ:Gh) (ρ:List Addr) (st:St) (Q:List V→St→Prop) (X:String→St→Prop),env.scope=sc→bO (2*k+1) A γ→Inv C γ ρ st.H s→Fra γ env st ρ s→
 wEs (Calls C k) C.glo es st Q X→wpAny C.M A (spliced (backTo pos (starEach pes env))) (DR C γ pes.length ρ st s Q) (bt C γ ρ st s X) s
end
section
variable {C:Cx} {k:Nat} {sc:Scope} {env:Env} {A:Around} {ρ₀:List Addr} {st₀:St} {s₀:Shared} {ρ:List Addr} {st:St} {s:Shared} {X:String→St→Prop}
theorem SE.at {e:E} {pe:Expr} {W:V→St→Prop} {K:Value→Shared→Prop} (ih:SE C k sc e pe) (hs:env.scope=sc) (hr:bO (2*k+1) A γ) (a:At C γ env ρ₀ st₀ s₀ ρ st s) (w:wE (Calls C k) C.glo e st W X)
  (h: ∀ mv s' v st' ρ',W v st'→Rel s'.heap ρ' (Nl γ ρ' st'.H) v mv→At C γ env ρ₀ st₀ s₀ ρ' st' s'→Stp ρ st.H s ρ' st'.H s'→K mv s'):wpAny C.M A (eval pe env) K (bt C γ ρ₀ st₀ s₀ X) s:=
 wpAny_mono (ih env A s γ ρ st W X hs hr a.inv a.fra w) (fun mv s' p=>by
  obtain ⟨v,st',ρ',h1,h2,h3,h4,h5⟩:=p
  exact h mv s' v st' ρ' h1 h3 ⟨h4,a.fra.step h5 h2,a.stp.trans h5,h2.trans a.same⟩ h5) fun _ _ p=>p.step a.inv a.stp a.same
theorem ST.at {e:E} {pe:Expr} {W:Bool→St→Prop} {K:Bool→Shared→Prop} (ih:ST C k sc e pe) (hs:env.scope=sc) (hr:bO (2*k+1) A γ) (a:At C γ env ρ₀ st₀ s₀ ρ st s) (w:wT (Calls C k) C.glo e st W X)
  (h: ∀ b s' st' ρ',W b st'→At C γ env ρ₀ st₀ s₀ ρ' st' s'→Stp ρ st.H s ρ' st'.H s'→K b s'):wpAny C.M A (isTrue pe env (eval pe env)) K (bt C γ ρ₀ st₀ s₀ X) s:=
 wpAny_mono (ih env A s γ ρ st W X hs hr a.inv a.fra w) (fun mv s' p=>by
  obtain ⟨st',ρ',h1,h2,h4,h5⟩:=p
  exact h mv s' st' ρ' h1 ⟨h4,a.fra.step h5 h2,a.stp.trans h5,h2.trans a.same⟩ h5) fun _ _ p=>p.step a.inv a.stp a.same
theorem SEs.at {es:Es} {pes:List Expr} {pos:Pos} {W:List V→St→Prop} {K:List Value→Shared→Prop} (ih:SEs C k sc es pes) (hs:env.scope=sc) (hr:bO (2*k+1) A γ) (a:At C γ env ρ₀ st₀ s₀ ρ st s) (w:wEs (Calls C k) C.glo es st W X)
  (h: ∀ ms s' vs st' ρ',ms.length=pes.length→W vs st'→aR s'.heap ρ' (Nl γ ρ' st'.H) vs ms→At C γ env ρ₀ st₀ s₀ ρ' st' s'→Stp ρ st.H s ρ' st'.H s'→K ms s'):wpAny C.M A (spliced (backTo pos (starEach pes env))) K (bt C γ ρ₀ st₀ s₀ X) s:=
 wpAny_mono (ih.2 pos env A s γ ρ st W X hs hr a.inv a.fra w) (fun ms s' p=>by
  obtain ⟨hn,v,st',ρ',h1,h2,h3,h4,h5⟩:=p
  exact h ms s' v st' ρ' hn h1 h3 ⟨h4,a.fra.step h5 h2,a.stp.trans h5,h2.trans a.same⟩ h5) fun _ _ p=>p.step a.inv a.stp a.same
theorem bt.mono {Y:String→St→Prop} {ev:Value} {s':Shared} (h: ∀ c st,X c st→Y c st) (p:bt C γ ρ st s X ev s'):bt C γ ρ st s Y ev s':=let ⟨c,st',ρ',h1,h2⟩:=p; ⟨c,st',ρ',h _ _ h1,h2⟩
theorem eM {l:List Addr} {i j:Nat} {a:Addr} (h:l.Nodup) (hi:l[i]?= some a) (hj:l[j]?= some a):i=j:=by
 obtain ⟨hi',e1⟩:=List.getElem?_eq_some_iff.mp hi
 obtain ⟨hj',e2⟩:=List.getElem?_eq_some_iff.mp hj
 exact (List.getElem_inj h).mp (e1.trans e2.symm)
theorem bj {H:List HO} {i j:Nat} {o x:HO} (h:(H.set i o)[j]?= some x):(i=j∧x=o∧i < H.length)∨(i≠j∧H[j]?= some x):=by
 rw [List.getElem?_set] at h
 by_cases e:i=j
 ·rw [if_pos e] at h
  by_cases l:i < H.length
  ·rw [if_pos l] at h; exact .inl ⟨e,(Option.some.inj h).symm,l⟩
  ·rw [if_neg l] at h; cases h
 ·rw [if_neg e] at h; exact .inr ⟨e,h⟩
theorem Inv.live_nh {H:List HO} {a:Addr} (I:Inv C γ ρ H s) (h:Lv ρ H a): ¬ γ.h a:=fun q=>by
 obtain ⟨i,o,h1,h2,h3⟩:=h
 rw [I.bor i a o h1 (I.apart a (List.mem_of_getElem? h1) q) h2] at h3; cases h3
theorem qQ {i:Nat} {vs:List V} {m:Value} {Q:V→St→Prop} (a:At C γ env ρ₀ st₀ s₀ ρ st s) (hH:st.H[i]?= some (.list vs)) (r:Rel s.heap ρ (Nl γ ρ st.H) (.loc i) m) (w:Q (.lst vs) ⟨st.s,st.H.set i .dead⟩):ef C γ ρ₀ st₀ s₀ Q m s:=by
 obtain ⟨x,rfl,hx⟩:=r.loc_inv
 obtain ⟨ms,hl,hr',hlen⟩:=a.inv.obj i _ _ hx hH
 have lv: ∀ b,Lv ρ (st.H.set i .dead) b→Lv ρ st.H b∧b≠x:=fun b ⟨j,o,h1,h2,h3⟩=>by
  rcases bj h2 with ⟨_,rfl,_⟩ | ⟨ne,h2⟩
  ·cases h3
  ·exact ⟨⟨j,o,h1,h2,h3⟩,fun e=>ne (eM a.inv.nodup hx (e▸h1))⟩
 have kd:cF s.heap ρ (Lv ρ st.H) s.heap ρ (Lv ρ (st.H.set i .dead)):=⟨fun _ o e _=>⟨o,e,.refl o⟩,fun b q=>.inl (lv b q).1,fun _ _ e=>e⟩
 have nl: ¬ Nl γ ρ (st.H.set i .dead) x:=fun q=>q.elim (fun q=>(lv x q).2 rfl) fun q=>a.inv.live_nh ⟨i,_,hx,hH,rfl⟩ q
 refine ⟨_,_,ρ,w,a.same,.lst hl nl hlen (hr'.kept kd.gh),⟨a.inv.base,by rw [List.length_set]; exact a.inv.len,a.inv.nodup,a.inv.fresh,a.inv.there,fun j b o h1 h2=>?_,a.inv.apart,?_,a.inv.held,a.inv.off,a.inv.frm,a.inv.hdl' kd,(fun z=>a.inv.hq (dX hH (fun c=>HO.noConfusion) z)),a.inv.gens,a.inv.os⟩,a.stp.trans ⟨kd⟩⟩
 ·rcases bj h2 with ⟨_,rfl,_⟩ | ⟨_,h2⟩
  ·trivial
  ·exact (a.inv.obj j b o h1 h2).kept kd.gh fun _ q=>q
 ·intro j b o h1 q h2
  rcases bj h2 with ⟨_,rfl,_⟩ | ⟨_,h2⟩
  ·rfl
  ·exact a.inv.bor j b o h1 q h2
theorem sw {pe:Expr}:SE C k sc .stuck pe:=fun _ _ _ _ _ _ _ _ _ _ _ _ w=>False.elim w
theorem xR {x:String} {p:Pos} (hk:wd sc x=true) (hd:(!((x:Str) == ("__debug__" :Str)) && !((x:Str) == ("__classdict__" :Str)) && !((x:Str) == (".0" :Str)))=true):SE C k sc (.var x) (.Name (x:Str) p):=by
 rintro env A s γ ρ st Q X rfl hr I F ⟨v,hv,w⟩
 simp only [Bool.and_eq_true,beq_iff_eq,Bool.not_eq_true',wd,Bool.or_eq_true,kd] at hk hd
 have hz:(x:Str)≠(".0" :Str):=fun e=>by rw [e] at hd; cases hd.2
 refine wpAny_Name ?_ hd.1.1
 have fin: ∀ {mv:Value},Rel s.heap ρ (Nl γ ρ st.H) v mv→ef C γ ρ st s Q mv s:=fun r=>by
  rcases w with w | ⟨i,vs,rfl,hH,w⟩
  ·exact (At.start I F).post w r
  ·exact qQ (At.start I F) hH r w
 rcases hk with (hk | hk) | hk
 ·obtain ⟨m,hn,hl⟩:=F.ns
  obtain ⟨mv,e1,e2⟩:=hl x v hk hz hv
  exact wpAny_loadName_local F.kind hk hn e1 (fin e2)
 ·obtain ⟨c,ov,h1,h2,h3,h4⟩:=F.cell x (.inl hk)
  obtain ⟨mv,rfl,e2⟩:=h4 x rfl v hv
  exact wpAny_loadName_cell F.kind hk h1 h3 (fin e2)
 ·obtain ⟨c,ov,h1,h2,h3,h4⟩:=F.cell x (.inr hk)
  obtain ⟨mv,rfl,e2⟩:=h4 x rfl v hv
  exact wpAny_loadName_free F.kind hk h1 h3 (fin e2) hd.1.2
theorem yb {x:String} {p:Pos} (hk:cf sc x=true):SE C k sc (.glo x) (.Name (x:Str) p):=by
 rintro env A s γ ρ st Q X rfl hr I F ⟨v,hv,w⟩
 simp only [Bool.and_eq_true,beq_iff_eq,Bool.not_eq_true',cf,kd] at hk
 obtain ⟨i,t,rfl,hg⟩:=C.hglo x v hv
 exact Calls.Name_function_global F.kind hk.1 (Calls.loadGlobal_global (mg:=C.mg) (by rw [F.glob]; exact C.g.keeps I.base) hg ((At.start I F).post w (.int _ _))) hk.2
theorem uH {p:Pos} {u:Nat}:SE C k sc .none (.Constant .none u p):=fun _ _ _ _ _ _ _ _ _ _ I F w=>Constant_none ((At.start I F).post w .none)
theorem uP {b:Bool} {p:Pos} {u:Nat}:SE C k sc (.bool b) (.Constant (.bool b) u p):=fun _ _ _ _ _ _ _ _ _ _ I F w=>Constant_bool ((At.start I F).post w (.bool _))
theorem xZ {i:Int} {p:Pos} {u:Nat}:SE C k sc (.int i) (.Constant (.int i) u p):=fun _ _ s _ _ _ _ _ _ _ I F w=>wpAny_Constant_int ((At.start I F).grew (bP.toks s _) |>.post w (.int _ _))
theorem xT {x:Str} {p:Pos} {u:Nat} (h:(decide (x.cps.toList.length≤1000) && x.cps.toList.all (· < 128))=true):SE C k sc (.str x.cps.toList) (.Constant (.str x) u p):=fun env A s γ ρ st Q X _ _ I F w=>by
 obtain ⟨h1,h2⟩:=Bool.and_eq_true_iff.mp h
 refine Calls.Constant_str ((At.start I F).grew (bP.toks s _) |>.post w ?_)
 exact .str (cs:=x.cps.toList) _ (Nat.le_trans (of_decide_eq_true h1) (by decide)) fun c hc=>of_decide_eq_true (List.all_eq_true.mp h2 c hc)
theorem ye {op:Operator} {a b:E} {pa pb:Expr} {p:Pos} (ha:SE C k sc a pa) (hb:SE C k sc b pb):SE C k sc (.bin op a b) (.BinOp pa op pb p):=fun env A s γ ρ st Q X hs hr I F w=>
 wpAny_BinOp (ha.at hs hr (At.start I F) w fun ma s₁ va st₁ ρ₁ w₁ r₁ a₁ S₁=>hb.at hs hr a₁ w₁ fun mb s₂ vb st₂ ρ₂ w₂ r₂ a₂ S₂=>by
  rcases w₂ with ⟨v,e,hQ⟩ | ⟨xs,ys,rfl,e1,e2,hl,hQ⟩
  ·exact wpAny_mono (sK e (r₁.kept S₂.kept) r₂) (fun _ _ p=>a₂.sameP hQ p) fun _ _ x=>x
  ·obtain ⟨p,ms,rfl,hp,rp,lp⟩:=a₂.inv.view (r₁.kept S₂.kept) e1
   obtain ⟨q,ns,rfl,hq,rq,lq⟩:=a₂.inv.view r₂ e2
   exact wpAny_mono (sI hp hq rp rq hl) (fun _ _ p=>a₂.newP hQ p) fun _ _ x=>x)
theorem xW {a:E} {pa:Expr} {p:Pos} (ha:SE C k sc a pa):SE C k sc (.neg a) (.UnaryOp .USub pa p):=fun env A s γ ρ st Q X hs hr I F w=>
 UnaryOp_ (ha.at hs hr (At.start I F) w fun ma s₁ va st₁ ρ₁ w₁ r₁ a₁ S₁=>by
  obtain ⟨i,rfl,w₁⟩:=w₁
  obtain ⟨t,rfl⟩:=r₁.int_inv
  exact P.neg_int ((a₁.grew (bP.toks s₁ _)).post w₁ (.int _ _)))
theorem xV {a:E} {pa:Expr} {p:Pos} (ha:SE C k sc a pa):SE C k sc (.not a) (.UnaryOp .Not pa p):=fun env A s γ ρ st Q X hs hr I F w=>
 UnaryOp_ (ha.at hs hr (At.start I F) w fun ma s₁ va st₁ ρ₁ w₁ r₁ a₁ S₁=>by
  obtain ⟨b,rfl,w₁⟩:=w₁
  obtain rfl:=r₁.bool_inv
  exact not_of (wpAny_truthy_bool (a₁.post w₁ (.bool _))))
theorem ya {a i:E} {pa pi:Expr} {p:Pos} (ha:SE C k sc a pa) (hi:SE C k sc i pi):SE C k sc (.idx a i) (.Subscript pa pi p):=fun env A s γ ρ st Q X hs hr I F w=>
 Subscript_ (ha.at hs hr (At.start I F) w fun ma s₁ va st₁ ρ₁ w₁ r₁ a₁ S₁=>hi.at hs hr a₁ w₁ fun mi s₂ vi st₂ ρ₂ w₂ r₂ a₂ S₂=>by
  obtain ⟨v,e,hQ⟩:=w₂
  exact wpAny_mono (sH a₂.inv e (r₁.kept S₂.kept) r₂) (fun _ _ p=>a₂.sameP hQ p) fun _ _ x=>x)
theorem dG {op:CmpOp} {e:Expr} (h:bE e=false):behindInMarks op e=false:=by
 cases e<;>first | rfl | cases h
theorem bO.cmp {k:Nat} {A:Around} (r:bO (2*k+1) A γ):A.units+65 < cLine:=by have:=r.units; show _ < 9900; exact lin [_,k] [(1,.a (.a (.v 0) (.m 4 (.a (.m 2 (.v 1)) (.n 1)))) (.n 1),.n 9000)] 1 (.a (.a (.v 0) (.n 65)) (.n 1)) (.n 9900) rfl this
theorem jo {o1 o2:CmpOp} {b c:Expr} (h:bE c=false):lastMarks [o1,o2] [b,c]=false:=dG h
theorem yc {op:CmpOp} {a b:E} {pa pb:Expr} {p:Pos} (h0:bE pb=false) (ha:SE C k sc a pa) (hb:SE C k sc b pb):SE C k sc (.cmp op a b) (.Compare pa [op] [pb] p):=fun env A s γ ρ st Q X hs hr I F w=>
 wpAny_Compare1 (ha.at hs hr (At.start I F) w fun ma s₁ va st₁ ρ₁ w₁ r₁ a₁ S₁=>hb.at hs hr a₁ w₁ fun mb s₂ vb st₂ ρ₂ w₂ r₂ a₂ S₂=>by
  obtain ⟨v,e,hQ⟩:=w₂
  exact wpAny_mono (dT a₂.inv hr.cmp e (r₁.kept S₂.kept) r₂) (fun _ _ p=>by obtain ⟨rfl,tk,rfl⟩:=p; exact (a₂.grew (.toks _ tk)).post hQ (.bool _)) fun _ _ x=>x) (dG h0)
theorem xH {op:CmpOp} {a b:E} {pa pb:Expr} {p:Pos} (h0:bE pb=false) (ha:SE C k sc a pa) (hb:SE C k sc b pb):ST C k sc (.cmp op a b) (.Compare pa [op] [pb] p):=fun env A s γ ρ st Q X hs hr I F w=>
 wpAny_isTrue_Compare1 (ha.at hs hr (At.start I F) w fun ma s₁ va st₁ ρ₁ w₁ r₁ a₁ S₁=>hb.at hs hr a₁ w₁ fun mb s₂ vb st₂ ρ₂ w₂ r₂ a₂ S₂=>by
  obtain ⟨v,e,b,hb,hQ⟩:=w₂
  cases hb
  exact wpAny_mono (dT a₂.inv hr.cmp e (r₁.kept S₂.kept) r₂) (fun _ _ p=>by obtain ⟨rfl,tk,rfl⟩:=p; have a₂:=a₂.grew (.toks _ tk); exact wpAny_truthy_bool ⟨st₂,ρ₂,hQ,a₂.same,a₂.inv,a₂.stp⟩) fun _ _ x=>x) (dG h0)
theorem uN {op op':CmpOp} {a b c:E} {pa pb pc:Expr} {p:Pos} (h0:bE pc=false) (ha:SE C k sc a pa) (hb:SE C k sc b pb) (hc:SE C k sc c pc):SE C k sc (.cmp2 op op' a b c) (.Compare pa [op,op'] [pb,pc] p):=fun env A s γ ρ st Q X hs hr I F w=>
 Compare_chain (ha.at hs hr (At.start I F) w fun ma s₁ va st₁ ρ₁ w₁ r₁ a₁ S₁=>chain_link (hb.at hs hr a₁ w₁ fun mb s₂ vb st₂ ρ₂ w₂ r₂ a₂ S₂=>by
  obtain ⟨v,e,hQ⟩:=w₂
  refine wpAny_mono (dT a₂.inv hr.cmp e (r₁.kept S₂.kept) r₂) (fun mv s' p=>?_) fun _ _ x=>x
  obtain ⟨rfl,tk,rfl⟩:=p
  have a₂:=a₂.grew (.toks _ tk)
  refine wpAny_truthy_bool ?_
  rcases hQ with ⟨rfl,hQ⟩ | ⟨rfl,hQ⟩
  ·exact chain_last (hc.at hs hr a₂ hQ fun mc s₄ vc st₄ ρ₄ w₄ r₄ a₄ S₄=>by
    obtain ⟨v',e',hQ'⟩:=w₄
    exact wpAny_mono (dT a₄.inv hr.cmp e' (r₂.kept S₄.kept) r₄) (fun _ _ p=>by obtain ⟨rfl,tk,rfl⟩:=p; exact (a₄.grew (.toks _ tk)).post hQ' (.bool _)) fun _ _ x=>x)
  ·exact a₂.post hQ (.bool _))) (jo h0)
theorem ur {op op':CmpOp} {a b c:E} {pa pb pc:Expr} {p:Pos} (h0:bE pc=false) (ha:SE C k sc a pa) (hb:SE C k sc b pb) (hc:SE C k sc c pc):ST C k sc (.cmp2 op op' a b c) (.Compare pa [op,op'] [pb,pc] p):=fun env A s γ ρ st Q X hs hr I F w=>
 isTrue_chain (ha.at hs hr (At.start I F) w fun ma s₁ va st₁ ρ₁ w₁ r₁ a₁ S₁=>test_link (hb.at hs hr a₁ w₁ fun mb s₂ vb st₂ ρ₂ w₂ r₂ a₂ S₂=>by
  obtain ⟨v,e,hQ⟩:=w₂
  refine wpAny_mono (dT a₂.inv hr.cmp e (r₁.kept S₂.kept) r₂) (fun mv s' p=>?_) fun _ _ x=>x
  obtain ⟨rfl,tk,rfl⟩:=p
  have a₂:=a₂.grew (.toks _ tk)
  refine wpAny_truthy_bool ?_
  rcases hQ with ⟨rfl,hQ⟩ | ⟨rfl,b,hb,hQ⟩
  ·exact test_last (hc.at hs hr a₂ hQ fun mc s₄ vc st₄ ρ₄ w₄ r₄ a₄ S₄=>by
    obtain ⟨v',e',b,hb,hQ'⟩:=w₄
    cases hb
    exact wpAny_mono (dT a₄.inv hr.cmp e' (r₂.kept S₄.kept) r₄) (fun _ _ p=>by obtain ⟨rfl,tk,rfl⟩:=p; have a₄:=a₄.grew (.toks _ tk); exact wpAny_truthy_bool ⟨st₄,ρ₄,hQ',a₄.same,a₄.inv,a₄.stp⟩) fun _ _ x=>x)
  ·cases hb; exact ⟨st₂,ρ₂,hQ,a₂.same,a₂.inv,a₂.stp⟩)) (jo h0)
theorem se {e:E} {pe:Expr} (he:SE C k sc e pe) (hp: ∀ env (whole:Sem Value),isTrue pe env whole=(do let v ← whole; standAt pe.pos; holding [v] (truthy v))):ST C k sc e pe:=fun env A s γ ρ st Q X hs hr I F w=>
 isTrue_plain (he.at hs hr (At.start I F) w fun mv s₁ v st₁ ρ₁ w₁ r₁ a₁ S₁=>by
  obtain ⟨b,rfl,w₁⟩:=w₁
  obtain rfl:=r₁.bool_inv
  exact wpAny_truthy_bool ⟨st₁,ρ₁,w₁,a₁.same,a₁.inv,a₁.stp⟩) (hp _ _)
theorem xG {a:E} {pa:Expr} {p:Pos} (ha:ST C k sc a pa):ST C k sc (.not a) (.UnaryOp .Not pa p):=fun env A s γ ρ st Q X hs hr I F w=>by
 refine isTrue_not (ha.at (W:=fun b st=>Q (!b) st) hs hr (At.start I F) ?_ fun b s₁ st₁ ρ₁ w₁ a₁ S₁=>⟨st₁,ρ₁,w₁,a₁.same,a₁.inv,a₁.stp⟩)
 have e:(fun (v:V) (st:St)=>∃ b,v=.bool b∧∃ b',V.bool (!b)=.bool b'∧Q b' st)=fun v st=>∃ b,v=.bool b∧Q (!b) st:=by
  funext v st
  exact propext ⟨fun ⟨b,h1,b',h2,h3⟩=>⟨b,h1,by cases h2; exact h3⟩,fun ⟨b,h1,h2⟩=>⟨b,h1,_,rfl,h2⟩⟩
 show wE (Calls C k) C.glo a st (fun (v:V) (st:St)=>∃ b,v=.bool b∧Q (!b) st) X
 rw [← e]; exact w
inductive lA (P:E→Expr→Prop):Es→List Expr→Prop
 | nil:lA P .nil []
 | cons {e:E} {pe:Expr} {es:Es} {pes:List Expr}:P e pe→lA P es pes→lA P (.cons e es) (pe::pes)
theorem lA.map {P P':E→Expr→Prop} (h: ∀ e pe,P e pe→P' e pe) {es:Es} {pes:List Expr} (x:lA P es pes):lA P' es pes:=by
 induction x with
 | nil=>exact .nil
 | cons a _ ih=>exact .cons (h _ _ a) ih
theorem cU {pe:Expr} {rest:List Expr} {env:Env} (h:bq pe=true):starEach (pe::rest) env=(false,eval pe env)::starEach rest env:=by
 cases pe<;>first | rfl | cases h
theorem cV {env:Env} {pos:Pos}: ∀ {pes:List Expr},(∀ pe∈pes,bq pe=true)→(backTo pos (starEach pes env)).any (·.1)=false
 | [],_=>rfl
 | pe::r,h=>by
  rw [cU (h pe List.mem_cons_self)]
  have:=cV (env:=env) (pos:=pos) (pes:=r) fun p q=>h p (List.mem_cons_of_mem _ q)
  simpa [backTo] using this
theorem xQ {es:Es} {pes:List Expr} (h:lA (fun e pe=>SE C k sc e pe∧bq pe=true) es pes):SEs C k sc es pes:=by
 induction h with
 | nil=>exact ⟨fun _ h=>absurd h List.not_mem_nil,fun _ _ _ _ _ _ _ _ _ _ _ I _ w=>Calls.spliced_nil ⟨rfl,[],_,_,w,rfl,.nil,I,.refl ..⟩⟩
 | cons he _ ih=>
  refine ⟨fun p q=>(List.mem_cons.mp q).elim (fun e=>e▸he.2) (ih.1 p),fun pos env A s γ ρ st Q X hs hr I F w=>?_⟩
  refine args_cons (he.1.at hs hr (At.start I F) w fun mv s₁ v st₁ ρ₁ w₁ r₁ a₁ S₁=>ih.at hs hr a₁ w₁ fun ms s₂ vs st₂ ρ₂ hn w₂ r₂ a₂ S₂=>?_) (cU he.2)
  exact ⟨congrArg Nat.succ hn,_,st₂,ρ₂,w₂,a₂.same,.cons (r₁.kept S₂.kept) r₂,a₂.inv,a₂.stp⟩
theorem aR.len_le {h:Heap} {ρ:List Addr} {N:Addr→Prop} {vs:List V} {ms:List Value} (r:aR h ρ N vs ms) {n:Nat} (h:ms.length≤n):vs.length≤n:=by rw [r.length]; exact h
theorem xS {es:Es} {pes:List Expr} {u:Nat} {p:Pos} (hl:pes.length≤1000) (hes:SEs C k sc es pes):SE C k sc (.tup es) (.Tuple pes u p):=fun env A s γ ρ st Q X hs hr I F w=>
 Tuple_ (hes.at hs hr (At.start I F) w fun ms s₁ vs st₁ ρ₁ hn w₁ r₁ a₁ S₁=>wpAny_mono (jV a₁.inv r₁ (r₁.len_le (Nat.le_trans (Nat.le_of_eq hn) (Nat.le_trans hl (by decide))))) (fun _ _ p=>a₁.grewP w₁ p) fun _ _ x=>x)
theorem uJ {es:Es} {pes:List Expr} {p:Pos} (hl:pes.length≤1000) (hes:SEs C k sc es pes):SE C k sc (.list es) (.List pes p):=fun env A s γ ρ st Q X hs hr I F w=>
 List_ (hes.at hs hr (At.start I F) w fun ms s₁ vs st₁ ρ₁ hn w₁ r₁ a₁ S₁=>wpAny_mono (kO r₁ (r₁.len_le (Nat.le_trans (Nat.le_of_eq hn) (Nat.le_trans hl (by decide))))) (fun _ _ p=>a₁.newP w₁ p) fun _ _ x=>x)
theorem yf {pos:Pos} {es:Es} {pes:List Expr} (h:lA (SE C k sc) es pes) (hne:pes≠[]):SE C k sc (.and es) (.BoolOp .And pes pos):=fun env A s γ ρ st Q X hs hr I F w=>by
 have key: ∀ {es:Es} {pes:List Expr} {ρ':List Addr} {st':St} {s':Shared},lA (SE C k sc) es pes→pes≠[]→At C γ env ρ st s ρ' st' s'→wJ (Calls C k) C.glo es st' Q X→wpAny C.M A (eval (.BoolOp .And pes pos) env) (ef C γ ρ st s Q) (bt C γ ρ st s X) s':=fun {es pes ρ' st' s'} h=>by
  induction h generalizing ρ' st' s' with
  | nil=>exact fun h=>absurd rfl h
  | cons he hr' ih=>
   intro _ a w
   cases hr' with
   | nil=>exact BoolOp_one (he.at hs hr a w fun mv s₁ v st₁ ρ₁ w₁ r₁ a₁ S₁=>by
     obtain ⟨b,rfl,w₁⟩:=w₁
     rcases w₁ with ⟨rfl,w₁⟩ | ⟨rfl,w₁⟩<;>exact a₁.post w₁ r₁)
   | cons he' hr'=>exact BoolOp_and (he.at hs hr a w fun mv s₁ v st₁ ρ₁ w₁ r₁ a₁ S₁=>by
     obtain ⟨b,rfl,w₁⟩:=w₁
     obtain rfl:=r₁.bool_inv
     refine wpAny_truthy_bool ?_
     rcases w₁ with ⟨rfl,w₁⟩ | ⟨rfl,w₁⟩
     ·exact ih (by simp) a₁ w₁
     ·exact a₁.post w₁ (.bool _))
 exact key h hne (At.start I F) w
theorem Ci {pos:Pos} {es:Es} {pes:List Expr} (h:lA (SE C k sc) es pes) (hne:pes≠[]):SE C k sc (.or es) (.BoolOp .Or pes pos):=fun env A s γ ρ st Q X hs hr I F w=>by
 have key: ∀ {es:Es} {pes:List Expr} {ρ':List Addr} {st':St} {s':Shared},lA (SE C k sc) es pes→pes≠[]→At C γ env ρ st s ρ' st' s'→wOr (Calls C k) C.glo es st' Q X→wpAny C.M A (eval (.BoolOp .Or pes pos) env) (ef C γ ρ st s Q) (bt C γ ρ st s X) s':=fun {es pes ρ' st' s'} h=>by
  induction h generalizing ρ' st' s' with
  | nil=>exact fun h=>absurd rfl h
  | cons he hr' ih=>
   intro _ a w
   cases hr' with
   | nil=>exact BoolOp_one (he.at hs hr a w fun mv s₁ v st₁ ρ₁ w₁ r₁ a₁ S₁=>by
     obtain ⟨b,rfl,w₁⟩:=w₁
     rcases w₁ with ⟨rfl,w₁⟩ | ⟨rfl,w₁⟩<;>exact a₁.post w₁ r₁)
   | cons he' hr'=>exact BoolOp_or (he.at hs hr a w fun mv s₁ v st₁ ρ₁ w₁ r₁ a₁ S₁=>by
     obtain ⟨b,rfl,w₁⟩:=w₁
     obtain rfl:=r₁.bool_inv
     refine wpAny_truthy_bool ?_
     rcases w₁ with ⟨rfl,w₁⟩ | ⟨rfl,w₁⟩
     ·exact a₁.post w₁ (.bool _)
     ·exact ih (by simp) a₁ w₁)
 exact key h hne (At.start I F) w
theorem xI {pos:Pos} {es:Es} {pes:List Expr} (h:lA (ST C k sc) es pes):ST C k sc (.and es) (.BoolOp .And pes pos):=fun env A s γ ρ st Q X hs hr I F w=>by
 have key: ∀ {es:Es} {pes:List Expr} {whole:Sem Value} {ρ':List Addr} {st':St} {s':Shared},lA (ST C k sc) es pes→At C γ env ρ st s ρ' st' s'→wJ (Calls C k) C.glo es st' (fun v st=>∃ b,v=.bool b∧Q b st) X→wpAny C.M A (isTrue (.BoolOp .And pes pos) env whole) (wH C γ ρ st s Q) (bt C γ ρ st s X) s':=fun {es pes whole ρ' st' s'} h=>by
  induction h generalizing whole ρ' st' s' with
  | nil=>exact fun a ⟨b,hb,w⟩=>by cases hb; exact PyProof.Rows.isTrue_and_nil ⟨_,_,w,a.same,a.inv,a.stp⟩
  | @cons e pe es pes he hr' ih=>
   exact fun a w=>PyProof.Rows.isTrue_and (he.at (W:=fun b st=>(b=true∧wJ (Calls C k) C.glo es st (fun v st=>∃ b,v=.bool b∧Q b st) X)∨(b=false∧∃ b,V.bool false=.bool b∧Q b st)) hs hr a w fun b s₁ st₁ ρ₁ w₁ a₁ S₁=>by
    rcases w₁ with ⟨rfl,w₁⟩ | ⟨rfl,b,hb,w₁⟩
    ·exact ih a₁ w₁
    ·cases hb; exact ⟨st₁,ρ₁,w₁,a₁.same,a₁.inv,a₁.stp⟩)
 exact key h (At.start I F) w
theorem Cg {pos:Pos} {es:Es} {pes:List Expr} (h:lA (ST C k sc) es pes):ST C k sc (.or es) (.BoolOp .Or pes pos):=fun env A s γ ρ st Q X hs hr I F w=>by
 have key: ∀ {es:Es} {pes:List Expr} {whole:Sem Value} {ρ':List Addr} {st':St} {s':Shared},lA (ST C k sc) es pes→At C γ env ρ st s ρ' st' s'→wOr (Calls C k) C.glo es st' (fun v st=>∃ b,v=.bool b∧Q b st) X→wpAny C.M A (isTrue (.BoolOp .Or pes pos) env whole) (wH C γ ρ st s Q) (bt C γ ρ st s X) s':=fun {es pes whole ρ' st' s'} h=>by
  induction h generalizing whole ρ' st' s' with
  | nil=>exact fun a ⟨b,hb,w⟩=>by cases hb; exact PyProof.Rows.isTrue_or_nil ⟨_,_,w,a.same,a.inv,a.stp⟩
  | @cons e pe es pes he hr' ih=>
   exact fun a w=>PyProof.Rows.isTrue_or (he.at (W:=fun b st=>(b=true∧∃ b,V.bool true=.bool b∧Q b st)∨(b=false∧wOr (Calls C k) C.glo es st (fun v st=>∃ b,v=.bool b∧Q b st) X)) hs hr a w fun b s₁ st₁ ρ₁ w₁ a₁ S₁=>by
    rcases w₁ with ⟨rfl,b,hb,w₁⟩ | ⟨rfl,w₁⟩
    ·cases hb; exact ⟨st₁,ρ₁,w₁,a₁.same,a₁.inv,a₁.stp⟩
    ·exact ih a₁ w₁)
 exact key h (At.start I F) w
theorem gv {va:V} {ma:Value} {lo hi:Option Int} {ml mu:Value} {Q:V→St→Prop} {value slice:Expr} (a:At C γ env ρ₀ st₀ s₀ ρ st s) (ra:Rel s.heap ρ (Nl γ ρ st.H) va ma) (p1:ly (lo.map .int) ml lo) (p2:ly (hi.map .int) mu hi) (w:wK va lo hi st Q):
  wpAny C.M A (subscriptTail value slice ma (.ref s.heap.objs.size)) (ef C γ ρ₀ st₀ s₀ Q) (bt C γ ρ₀ st₀ s₀ X) { s with heap:=s.heap.push { cls:=.type "slice",data:=.fields #[ml,mu,.none]}}:=by
 rcases w with ⟨cs,rfl,w⟩ | ⟨xs,e,w⟩
 ·obtain ⟨t,rfl,hlen,ha⟩:=ra.str_inv
  exact wpAny_mono (ja (ρ:=ρ) (H:=st.H) hlen ha p1 p2) (fun mv s' p=>(a.grew p.2).post w (p.1.kept p.2.stp.kept)) fun _ _ x=>x
 ·obtain ⟨b,ms,rfl,hl,hr,hlen⟩:=a.inv.view ra e
  exact wpAny_mono (hU hl hr hlen p1 p2) (fun _ _ p=>a.newP w p) fun _ _ x=>x
noncomputable def DS (C:Cx) (k:Nat) (sc:Scope) (e:E) (o:Option Expr):Prop:=(o=none∧e.isOmit=true)∨(e.isOmit=false∧∃ pe,o=some pe∧SE C k sc e pe)
theorem eL:ly ((none:Option Int).map V.int) Value.none none:=.inl ⟨rfl,rfl,rfl⟩
theorem gy (i:Int) (t:Tok):ly ((some i).map V.int) (.int i t) (some i):=.inr ⟨i,t,rfl,rfl,rfl⟩
theorem tf {b:Bool} {P:Prop} (h:b=true) (h':b=false):P:=by rw [h] at h'; cases h'
theorem xU {a lo hi:E} {pa:Expr} {pl ph:Option Expr} {p q:Pos} (ha:SE C k sc a pa) (hl:DS C k sc lo pl) (hh:DS C k sc hi ph):SE C k sc (.slc a lo hi) (.Subscript pa (.Slice pl ph none q) p):=fun env A s γ ρ st Q X hs hr I F w=>
 Subscript_ (ha.at hs hr (At.start I F) w fun ma s₁ va st₁ ρ₁ w₁ r₁ a₁ S₁=>wpAny_Slice (by
  rcases hl with ⟨rfl,hl⟩ | ⟨hl,pe,rfl,hl'⟩
  ·obtain ⟨_,w₁⟩:=w₁.resolve_right fun z=>tf hl z.1
   rw [evalPart_none]
   refine wpAny_pure ?_
   rcases hh with ⟨rfl,hh⟩ | ⟨hh,pe,rfl,hh'⟩
   ·obtain ⟨_,w₁⟩:=w₁.resolve_right fun z=>tf hh z.1
    rw [evalPart_none]
    exact wpAny_pure (wpAny_pure (gv a₁ r₁ eL eL w₁))
   ·obtain ⟨_,w₁⟩:=w₁.resolve_left fun z=>tf z.1 hh
    rw [evalPart_some]
    refine hh'.at hs hr a₁ w₁ fun mh s₂ vh st₂ ρ₂ w₂ r₂ a₂ S₂=>?_
    obtain ⟨j,rfl,w₂⟩:=w₂
    obtain ⟨t,rfl⟩:=r₂.int_inv
    exact wpAny_pure (gv a₂ (r₁.kept S₂.kept) eL (gy j t) w₂)
  ·obtain ⟨_,w₁⟩:=w₁.resolve_left fun z=>tf z.1 hl
   rw [evalPart_some]
   refine hl'.at hs hr a₁ w₁ fun ml s₂ vl st₂ ρ₂ w₂ r₂ a₂ S₂=>?_
   obtain ⟨i,rfl,w₂⟩:=w₂
   obtain ⟨t,rfl⟩:=r₂.int_inv
   rcases hh with ⟨rfl,hh⟩ | ⟨hh,pe,rfl,hh'⟩
   ·obtain ⟨_,w₂⟩:=w₂.resolve_right fun z=>tf hh z.1
    rw [evalPart_none]
    exact wpAny_pure (wpAny_pure (gv a₂ (r₁.kept S₂.kept) (gy i t) eL w₂))
   ·obtain ⟨_,w₂⟩:=w₂.resolve_left fun z=>tf z.1 hh
    rw [evalPart_some]
    refine hh'.at hs hr a₂ w₂ fun mh s₃ vh st₃ ρ₃ w₃ r₃ a₃ S₃=>?_
    obtain ⟨j,rfl,w₃⟩:=w₃
    obtain ⟨t',rfl⟩:=r₃.int_inv
    exact wpAny_pure (gv a₃ ((r₁.kept S₂.kept).kept S₃.kept) (gy i t) (gy j t') w₃)))
end
end
noncomputable section
open PySem PyProof.Rows
section
variable {α:Type} {le:α→α→Bool} {l:List α}
theorem lm {p q:α→Bool}: ∀ {l:List α},(∀ z∈l,p z=true→q z=true)→∀ x∈l,q x=true→p x=false→l.countP p < l.countP q
 | [],_,_,h,_,_=>absurd h List.not_mem_nil
 | y::l,h,x,hx,hq,hp=>by
  have hle:l.countP p≤l.countP q:=List.countP_mono_left fun z hz=>h z (List.mem_cons_of_mem _ hz)
  rcases List.mem_cons.mp hx with rfl | hx
  ·rw [List.countP_cons_of_neg (by rw [hp]; exact Bool.false_ne_true),List.countP_cons_of_pos hq]; exact Nat.lt_succ_of_le hle
  ·have ih:=lm (fun z hz=>h z (List.mem_cons_of_mem _ hz)) x hx hq hp
   by_cases e:p y=true
   ·rw [List.countP_cons_of_pos e,List.countP_cons_of_pos (h y List.mem_cons_self e)]; exact Nat.succ_lt_succ ih
   ·rw [List.countP_cons_of_neg e]
    exact Nat.lt_of_lt_of_le ih (List.Sublist.countP_le (List.sublist_cons_self y l))
noncomputable def rank (le:α→α→Bool) (l:List α) (x:α):Int:=(l.countP fun z=>!le x z:Nat)
structure mT (le:α→α→Bool) (l:List α):Prop where
 tot: ∀ x∈l,∀ y∈l,le x y=true∨le y x=true
 tr: ∀ x∈l,∀ y∈l,∀ z∈l,le x y=true→le y z=true→le x z=true
 anti: ∀ x∈l,∀ y∈l,le x y=true→le y x=true→x=y
theorem mT.rank (O:mT le l) {x y:α} (hx:x∈l) (hy:y∈l):decide (rank le l x < rank le l y)= !le y x:=by
 unfold Mine.rank
 rw [Bool.eq_iff_iff,decide_eq_true_iff,Int.ofNat_lt,Bool.not_eq_true']
 constructor
 ·intro h
  cases e:le y x with
  | false=>rfl
  | true=>
   refine absurd h (Nat.not_lt.mpr (List.countP_mono_left fun z hz q=>?_))
   rw [Bool.not_eq_true'] at q ⊢
   cases e':le x z with
   | false=>rfl
   | true=>rw [O.tr y hy x hx z hz e e'] at q; cases q
 ·intro e
  refine lm (fun z hz q=>?_) x hx (by rw [e]; rfl) (by rw [(O.tot x hx x hx).elim id id]; rfl)
  rw [Bool.not_eq_true'] at q ⊢
  cases e':le y z with
  | false=>rfl
  | true=>
   have:=(O.tot x hx z hz).resolve_left (by rw [q]; exact Bool.false_ne_true)
   rw [O.tr y hy z hz x hx e' this] at e; cases e
theorem mT.le_of (O:mT le l) {x y:α} (hx:x∈l) (hy:y∈l) (h:Mine.rank le l x≤Mine.rank le l y):le x y=true:=by
 have:=O.rank hy hx
 rw [decide_eq_false (Int.not_lt.mpr h)] at this
 rwa [Bool.false_eq,Bool.not_eq_false'] at this
end
theorem aR.perm {h:Heap} {ρ:List Addr} {N:Addr→Prop} {out ms:List Value} (p:out.Perm ms): ∀ {xs:List V},aR h ρ N xs ms→∃ zs:List V,zs.Perm xs∧aR h ρ N zs out:=by
 induction p with
 | nil=>exact fun r=>⟨_,.refl _,r⟩
 | cons a _ ih=>
  intro xs r
  cases r with
  | cons b r=>obtain ⟨zs,h1,h2⟩:=ih r; exact ⟨_,h1.cons _,.cons b h2⟩
 | swap a b l=>
  intro xs r
  cases r with
  | cons x r=>cases r with | cons y r=>exact ⟨_,.swap ..,.cons y (.cons x r)⟩
 | trans _ _ ih1 ih2=>
  intro xs r
  obtain ⟨zs,h1,h2⟩:=ih2 r
  obtain ⟨us,h3,h4⟩:=ih1 h2
  exact ⟨us,h3.trans h1,h4⟩
section
variable {C:Cx} {A:Around} {E:Value→Shared→Prop} {s:Shared} {ρ:List Addr} {N:Addr→Prop}
structure wG (C:Cx) (s:Shared) (ρ:List Addr) (N:Addr→Prop) (kd:SortKind) (xs:List V) (ms:List Value):Prop where
 ord:mT leV xs
 uni: ∀ v∈xs,∀ v'∈xs,∀ m,Rel s.heap ρ N v m→Rel s.heap ρ N v' m→v=v'
 kind: ∀ (A:Around) (E:Value→Shared→Prop) (s':Shared),(∀ b o,s.heap.get? b=some o→s'.heap.get? b=some o)→2≤ms.length→wpAny C.M A (keyKind' ms.toArray) (fun k s''=>k=kd∧s''=s') E s'
 less: ∀ (A:Around) (E:Value→Shared→Prop) (s':Shared) (Q:Bool→Shared→Prop),(∀ b o,s.heap.get? b=some o→s'.heap.get? b=some o)→∀ v∈xs,∀ v'∈xs,∀ m m',Rel s.heap ρ N v m→Rel s.heap ρ N v' m'→Q (!leV v' v) s'→wpAny C.M A (keyLt' kd m m') Q E s'
theorem jh {a:Addr} {xs:List V} {ms:List Value} (hl:s.heap.PlainList a ms.toArray) (r:aR s.heap ρ N xs ms) (hlen:xs.length≤1000000) (R:List Value→Shared→Prop) (h: ∀ ms h' tk,(∀ b o,s.heap.get? b=some o→h'.get? b=some o)→aR s.heap ρ N xs ms→R ms { s with heap:=h',toks:=tk }):wpAny C.M A (collect (.ref a)) R E s:=by
 refine collect_list hl.isList (h _ _ s.toks (fun b o hb=>?_) r) (by rw [← r.length,sizeLine_eq]; exact lin [_] [(1,.v 0,.n 1000000)] 1 (.v 0) (.n 16777216) rfl hlen)
 rw [Heap.get?_update_ne _ _ _ _ (Nat.ne_of_lt (Heap.lt_size hb))]
 exact Heap.get?_push_of_some _ hb
open Classical in
theorem fM {x:Value} {xs ys:List V} {kd:SortKind} (hc: ∀ R:List Value→Shared→Prop,(∀ ms h' tk,(∀ b o,s.heap.get? b=some o→h'.get? b=some o)→aR s.heap ρ N xs ms→R ms { s with heap:=h',toks:=tk })→wpAny C.M A.in1 (collect x) R E s)
  (S: ∀ ms,aR s.heap ρ N xs ms→wG C s ρ N kd xs ms) (hlen:xs.length≤1000000) (hp:ys.Perm xs) (hs:ys.Pairwise fun a b=>leV a b=true):
  wpAny C.M A (call (.builtin "sorted") [x]) (cx s ρ N ys) E s:=by
 let val:Value→V:=fun m=>if h: ∃ v∈xs,Rel s.heap ρ N v m then Classical.choose h else .none
 refine pX (kd:=kd) (κ:=fun m=>rank leV xs (val m)) hc (fun ms r=>by rw [← r.length]; exact lin [_] [(1,.v 0,.n 1000000)] 1 (.v 0) (.n 16000000) rfl hlen) (fun ms r s' k h2=>(S ms r).kind _ _ s' k h2) (fun ms r s' k x y hx hy st Q hk hq=>?_) fun ms out h' tk a r p q kp hf ho=>?_
 all_goals
  have S:=S ms r
  have hv: ∀ v∈xs,∀ m,Rel s.heap ρ N v m→val m=v:=fun v hv m q=>by
   have h: ∃ v∈xs,Rel s.heap ρ N v m:=⟨v,hv,q⟩
   show (if h: ∃ v∈xs,Rel s.heap ρ N v m then Classical.choose h else .none)=v
   rw [dif_pos h]
   exact S.uni _ (Classical.choose_spec h).1 v hv m (Classical.choose_spec h).2 q
 ·have hm: ∀ m∈ms,∃ v∈xs,Rel s.heap ρ N v m:=fun m q=>by
   obtain ⟨i,e⟩:=List.mem_iff_getElem?.mp q
   obtain ⟨v,e1,e2⟩:=r.get' e
   exact ⟨v,List.mem_of_getElem? e1,e2⟩
  rw [pairsOf_toList] at hx hy
  obtain ⟨v,hv1,r1⟩:=hm _ (mem_zip_self hx).2
  obtain ⟨u,hu1,r2⟩:=hm _ (mem_zip_self hy).2
  rw [lt'_eq]
  refine wpS_bind (wpS_get ?_)
  rw [hk]
  refine wpS_bind (wpS_lift (wpAny_attempt (S.less _ _ s' _ k v hv1 u hu1 _ _ r1 r2 ⟨rfl,wpS_pure ?_⟩)))
  rw [← S.ord.rank hv1 hu1,← hv v hv1 _ r1,← hv u hu1 _ r2]
  exact hq
 ·obtain ⟨zs,p',r'⟩:=r.perm p
  have e:zs=ys:=by
   refine (p'.trans hp.symm).eq_of_pairwise (le:=fun a b=>leV a b=true) (fun x y hx hy=>S.ord.anti x (p'.mem_iff.mp hx) y (hp.mem_iff.mp hy)) ?_ hs
   rw [List.pairwise_iff_getElem]
   intro i j hi hj hij
   have gi:zs[i]∈xs:=p'.mem_iff.mp (List.getElem_mem _)
   have gj:zs[j]∈xs:=p'.mem_iff.mp (List.getElem_mem _)
   obtain ⟨m,e1,r1⟩:=r'.get (List.getElem?_eq_getElem hi)
   obtain ⟨m',e2,r2⟩:=r'.get (List.getElem?_eq_getElem hj)
   obtain ⟨hi',q1⟩:=List.getElem?_eq_some_iff.mp e1
   obtain ⟨hj',q2⟩:=List.getElem?_eq_some_iff.mp e2
   have:=List.pairwise_iff_getElem.mp q i j hi' hj' hij
   rw [q1,q2,hv _ gi _ r1,hv _ gj _ r2] at this
   exact S.ord.le_of gi gj this
  subst e
  obtain ⟨e,he⟩:=ho
  refine ⟨_,out.toList,rfl,hf,⟨kp,rfl,rfl⟩,⟨e,by simpa [seqObj] using he⟩,r',?_⟩
  rw [hp.length_eq]; unfold aA; exact lin [_] [(1,.v 0,.n 1000000)] 1 (.v 0) (.n 16777216) rfl hlen
end
end
noncomputable section
open PySem PyProof.Rows PySem.W
section
variable {C:Cx} {s:Shared} {ρ:List Addr} {N:Addr→Prop}
theorem fO (a b c d:Int):leV (.tup [.int a,.int b]) (.tup [.int c,.int d])=decide (a < c∨a=c∧b≤d):=by
 show (if (a == c)=true then (if (b == d)=true then true else decide (b≤d)) else decide (a≤c))=_
 by_cases h:a=c
 ·subst h
  rw [if_pos (beq_self_eq_true a)]
  by_cases h':b=d
  ·subst h'; rw [if_pos (beq_self_eq_true b)]; simp
  ·rw [if_neg (by simpa using h')]; simp
 ·rw [if_neg (by simpa using h)]
  rw [decide_eq_decide]
  constructor
  ·intro q; exact .inl (Int.lt_iff_le_and_ne.mpr ⟨q,h⟩)
  ·rintro (q | q)
   ·exact Int.le_of_lt q
   ·exact absurd q.1 h
theorem qt {xs:List V} (h: ∀ v∈xs,∃ i j,v=.tup [.int i,.int j]):mT leV xs:=by
 refine ⟨fun x hx y hy=>?_,fun x hx y hy z hz=>?_,fun x hx y hy=>?_⟩
 ·obtain ⟨a,b,rfl⟩:=h x hx
  obtain ⟨c,d,rfl⟩:=h y hy
  rw [fO,fO,decide_eq_true_iff,decide_eq_true_iff]; lia
 ·obtain ⟨a,b,rfl⟩:=h x hx
  obtain ⟨c,d,rfl⟩:=h y hy
  obtain ⟨e,f,rfl⟩:=h z hz
  rw [fO,fO,fO,decide_eq_true_iff,decide_eq_true_iff,decide_eq_true_iff]; lia
 ·obtain ⟨a,b,rfl⟩:=h x hx
  obtain ⟨c,d,rfl⟩:=h y hy
  rw [fO,fO,decide_eq_true_iff,decide_eq_true_iff]
  intro p q
  obtain rfl:a=c:=by lia
  obtain rfl:b=d:=by lia
  rfl
theorem dB (a b:List Nat):leV (.str a) (.str b)=decide (a≤b):=rfl
theorem oP {xs:List V} (h: ∀ v∈xs,∃ i,v=.str i):mT leV xs:=by
 refine ⟨fun x hx y hy=>?_,fun x hx y hy z hz=>?_,fun x hx y hy=>?_⟩
 ·obtain ⟨a,rfl⟩:=h x hx
  obtain ⟨b,rfl⟩:=h y hy
  rw [dB,dB,decide_eq_true_iff,decide_eq_true_iff]; exact List.le_total a b
 ·obtain ⟨a,rfl⟩:=h x hx
  obtain ⟨b,rfl⟩:=h y hy
  obtain ⟨c,rfl⟩:=h z hz
  rw [dB,dB,dB,decide_eq_true_iff,decide_eq_true_iff,decide_eq_true_iff]; exact List.le_trans
 ·obtain ⟨a,rfl⟩:=h x hx
  obtain ⟨b,rfl⟩:=h y hy
  rw [dB,dB,decide_eq_true_iff,decide_eq_true_iff]; exact fun p q=>congrArg _ (List.le_antisymm p q)
theorem oG {xs:List V} {ms:List Value} (r:aR s.heap ρ N xs ms) (h: ∀ v∈xs,∃ i,v=.str i):wG C s ρ N oneType' xs ms:=by
 refine ⟨oP h,fun v hv v' hv' m q q'=>?_,fun A E s' k h2=>?_,fun A E s' Q k v hv v' hv' m m' q q' hQ=>?_⟩
 ·obtain ⟨a,rfl⟩:=h v hv
  obtain ⟨b,rfl⟩:=h v' hv'
  obtain ⟨t,e,_⟩:=q.str_inv
  obtain ⟨u,e',_⟩:=q'.str_inv
  rw [e] at e'
  have e2:=(Value.str.inj e').1
  have:a.toArray=b.toArray:=congrArg Str.cps e2
  rw [show a=b by simpa using this]
 ·have ia:StrsAre ms (ms.map strOf):=strsAre_map ms fun m hm=>by
   obtain ⟨i,e⟩:=List.mem_iff_getElem?.mp hm
   obtain ⟨v,e1,e2⟩:=r.get' e
   obtain ⟨a,rfl⟩:=h v (List.mem_of_getElem? e1)
   obtain ⟨t,e3,_⟩:=e2.str_inv
   exact ⟨_,t,e3⟩
  match ms,h2,ia with
  | v₁::v₂::rest,_,ia=>rw [keyKind_strs ia]; exact wpAny_pure ⟨rfl,rfl⟩
 ·obtain ⟨a,rfl⟩:=h v hv
  obtain ⟨b,rfl⟩:=h v' hv'
  obtain ⟨t,rfl,_⟩:=q.str_inv
  obtain ⟨u,rfl,_⟩:=q'.str_inv
  rw [keyLt'_oneType]
  refine oneLt_str ?_
  rw [dB,← decide_not] at hQ
  rwa [show decide ((⟨a.toArray⟩:Str).cps.toList < (⟨b.toArray⟩:Str).cps.toList)=decide (¬ b≤a) from decide_eq_decide.mpr List.not_le.symm]
theorem xF {h:Heap} {x y:Int} {m:Value} (q:Rel h ρ N (.tup [.int x,.int y]) m): ∃ a o t u n,m=.ref a∧h.get? a=some o∧o.cls=.type "tuple" ∧o.data=.seq #[.int x t,.int y u] n:=by
 obtain ⟨a,ms,rfl,ht,_,_,r⟩:=q.tup_inv
 obtain ⟨m1,r1,rfl,q1,r⟩:=r.cons_inv
 obtain ⟨m2,r2,rfl,q2,r⟩:=r.cons_inv
 obtain rfl:=r.nil_inv
 obtain ⟨t,rfl⟩:=q1.int_inv
 obtain ⟨u,rfl⟩:=q2.int_inv
 obtain ⟨o,ho,hc,n,hd⟩:=ht
 exact ⟨a,o,t,u,n,rfl,ho,hc,hd⟩
theorem vZ {h:Heap} {xs:List V} {ms:List Value} (r:aR h ρ N xs ms):(∀ v∈xs,∃ i j,v=.tup [.int i,.int j])→∃ fs:List Value,KatTups h ms fs∧fs.length=ms.length∧∀ v∈fs,∃ i t,v=.int i t:=
 r.walk (L:=fun xs ms=>(∀ v∈xs,∃ i j,v=.tup [.int i,.int j])→∃ fs:List Value,KatTups h ms fs∧fs.length=ms.length∧∀ v∈fs,∃ i t,v=.int i t) (fun _=>⟨[],.nil,rfl,fun _ q=>absurd q List.not_mem_nil⟩) fun a _ ih hv=>by
  obtain ⟨i,j,rfl⟩:=hv _ List.mem_cons_self
  obtain ⟨ad,o,t,u,n,rfl,ho,hc,hd⟩:=xF a
  obtain ⟨fs,h1,h2,h3⟩:=ih fun v q=>hv v (List.mem_cons_of_mem _ q)
  refine ⟨.int i t::fs,.cons ho hc hd rfl h1,congrArg Nat.succ h2,fun v q=>?_⟩
  rcases List.mem_cons.mp q with rfl | q
  ·exact ⟨i,t,rfl⟩
  ·exact h3 v q
theorem pW {xs:List V} {ms:List Value} (r:aR s.heap ρ N xs ms) (h: ∀ v∈xs,∃ i j,v=.tup [.int i,.int j]):wG C s ρ N (tuples' true) xs ms:=by
 refine ⟨qt h,fun v hv v' hv' m q q'=>?_,fun A E s' k h2=>?_,fun A E s' Q k v hv v' hv' m m' q q' hQ=>?_⟩
 ·obtain ⟨a,b,rfl⟩:=h v hv
  obtain ⟨c,d,rfl⟩:=h v' hv'
  obtain ⟨ad,o,t,u,n,rfl,ho,_,hd⟩:=xF q
  obtain ⟨ad',o',t',u',n',e,ho',_,hd'⟩:=xF q'
  cases e
  rw [ho] at ho'; cases ho'
  rw [hd] at hd'; cases hd'; rfl
 ·obtain ⟨fs,h1,h3,h4⟩:=vZ r h
  have t:KatTups s'.heap ms fs:=by
   clear h2 h3 h4 r
   induction ms generalizing fs with
   | nil=>cases fs with | nil=>trivial | cons _ _=>exact h1.elim
   | cons m ms ih=>cases fs with
    | nil=>exact h1.elim
    | cons f fs=>exact ⟨let ⟨a,o,xs,n,e,ho,z⟩:=h1.1; ⟨a,o,xs,n,e,k a o ho,z⟩,ih fs h1.2⟩
  refine kat_kind (T:=.type "int") t (by exact lin [_,_] [(1,.n 2,.v 1),(1,.v 1,.v 0)] 1 (.a (.n 0) (.n 1)) (.v 0) rfl h2 (l_s h3)) (fun v hv=>?_) rfl ⟨rfl,rfl⟩
  obtain ⟨i,tk,rfl⟩:=h4 v hv
  exact fun A Q E s _ q=>wpAny_pure q
 ·obtain ⟨a,b,rfl⟩:=h v hv
  obtain ⟨c,d,rfl⟩:=h v' hv'
  obtain ⟨ad,o,t,u,n,rfl,ho,_,hd⟩:=xF q
  obtain ⟨ad',o',t',u',n',rfl,ho',_,hd'⟩:=xF q'
  rw [fO,← decide_not] at hQ
  refine kat_lt (k _ _ ho) hd (k _ _ ho') hd' (kat_cons (wpAny_eqBool_int (kat_go (fun e=>kat_yes (kat_cons (wpAny_eqBool_int (kat_go (fun e'=>kat_yes (kat_nil ?_)) fun e'=>kat_no (kat_one _ _ (wpAny_lt_int ?_)))))) fun e=>kat_no (oneLt_int ?_))))
  ·have:=beq_iff_eq.mp e; have:=beq_iff_eq.mp e'
   rwa [decide_eq_false (by lia)] at hQ
  ·have:=beq_iff_eq.mp e
   show Q (decide (b < d)) s'
   rwa [decide_eq_decide.mpr (show ¬ (c < a∨c=a∧d≤b) ↔ b < d by lia)] at hQ
  ·have: ¬ a=c:=by simpa using e
   rwa [decide_eq_decide.mpr (show ¬ (c < a∨c=a∧d≤b) ↔ a < c by lia)] at hQ
theorem lV {A:Around} {E:Value→Shared→Prop} {a:Addr} {xs ys:List V} {ms:List Value} (hl:s.heap.PlainList a ms.toArray) (r:aR s.heap ρ N xs ms) (hk:gM xs) (hlen:xs.length≤1000000) (hp:ys.Perm xs) (hs:ys.Pairwise fun a b=>leV a b=true):
  wpAny C.M A (call (.builtin "sorted") [.ref a]) (cx s ρ N ys) E s:=by
 cases hk with
 | txts h=>exact fM (jh hl r hlen) (fun _ r=>oG r h) hlen hp hs
 | duos h=>exact fM (jh hl r hlen) (fun _ r=>pW r h) hlen hp hs
end
end
noncomputable section
open PySem PyProof.Rows
variable {γ:Gh}
section
variable {C:Cx} {k:Nat} {sc:Scope} {env:Env} {A:Around} {ρ₀:List Addr} {st₀:St} {s₀:Shared} {ρ:List Addr} {st:St} {s:Shared} {X:String→St→Prop}
theorem jZ {f:String} {p:Pos} {Q:Value→Shared→Prop} {E:Value→Shared→Prop} (I:Inv C γ ρ st.H s) (F:Fra γ env st ρ s) (hf:f∈bltNames) (hk:cf env.scope f=true) (h:Q (eV f) s):
  wpAny C.M A (eval (.Name (f:Str) p) env) Q E s:=by
 simp only [cf,Bool.and_eq_true,beq_iff_eq,Bool.not_eq_true',kd] at hk
 exact Calls.Name_function_global F.kind hk.1 (Calls.loadGlobal_builtin (mg:=C.mg) (mb:=C.mb) (by rw [F.glob]; exact C.g.keeps I.base) (C.blts f hf).1 (by rw [F.blt]; exact C.b.keeps I.base) (C.blts f hf).2 h) hk.2
theorem gA {c:String} {p:Pos} {cls:Addr} {Q:Value→Shared→Prop} {E:Value→Shared→Prop} (I:Inv C γ ρ st.H s) (F:Fra γ env st ρ s) (hc:C.mg c=some (.ref cls)) (hk:cf env.scope c=true) (h:Q (.ref cls) s):
  wpAny C.M A (eval (.Name (c:Str) p) env) Q E s:=by
 simp only [cf,Bool.and_eq_true,beq_iff_eq,Bool.not_eq_true',kd] at hk
 exact Calls.Name_function_global F.kind hk.1 (Calls.loadGlobal_global (mg:=C.mg) (by rw [F.glob]; exact C.g.keeps I.base) hc h) hk.2
theorem bR {f:Value} {es:Es} {pes:List Expr} {pos:Pos} {W:List V→St→Prop} {K:Args→Shared→Prop} (ih:SEs C k sc es pes) (hs:env.scope=sc) (hr:bO (2*k+1) A γ) (a:At C γ env ρ₀ st₀ s₀ ρ st s) (w:wEs (Calls C k) C.glo es st W X)
  (h: ∀ ms s' vs st' ρ',ms.length=pes.length→W vs st'→aR s'.heap ρ' (Nl γ ρ' st'.H) vs ms→At C γ env ρ₀ st₀ s₀ ρ' st' s'→Stp ρ st.H s ρ' st'.H s'→K ⟨ms,[]⟩ s'):wpAny C.M A (evalArgs f true (backTo pos (starEach pes env)) []) K (bt C γ ρ₀ st₀ s₀ X) s:=by
 cases pes with
 | nil=>
  have key:=ih.at (pos:=pos) (K:=fun ms s'=>ms=[]∧K ⟨ms,[]⟩ s') hs hr a w fun ms s' vs st' ρ' hl a1 a2 a3 a4=>⟨List.eq_nil_of_length_eq_zero hl,h ms s' vs st' ρ' hl a1 a2 a3 a4⟩
  show wpAny _ _ (evalArgs f true [] []) _ _ s
  unfold evalArgs
  show wpAny _ A (spliced [] >>= _) _ _ s
  refine wpAny_bind (wpAny_mono key (fun vs s' q=>?_) fun _ _ x=>x)
  obtain ⟨rfl,q⟩:=q
  refine wpAny_bind (wpAny_pure (wpAny_holding ?_))
  exact wpAny_bind (wpAny_pure (wpAny_bind (wpAny_pure (wpAny_pure q))))
 | cons p r=>
  have key:=ih.at (pos:=pos) hs hr a w h
  rw [cU (ih.1 p List.mem_cons_self)] at key ⊢
  exact Calls.evalArgs_plain key
theorem uO {f:String} {es:Es} {pes:List Expr} {p q:Pos} (hf:f∈C.fns) (hk:cf sc f=true) (hne:pes≠[]) (hes:SEs C k sc es pes):SE C k sc (.call f es) (.Call (.Name (f:Str) p) pes [] q):=fun env A s γ ρ st Q X hs hr I F w=>by
 obtain ⟨fa,o,fd,hfa,h1,h2,h3⟩:=C.hfns f hf
 refine Call_ (gA I F h1 (hs▸hk) (Calls.callWith_function (o:=o) (fd:=fd) (bR hes hs hr (At.start I F) w fun ms s₁ vs st₁ ρ₁ hn w₁ r₁ a₁ S₁=>⟨⟨a₁.inv.base _ _ h2,h3⟩,?_⟩)))
 rcases w₁ with ⟨v,H',hc,hQ⟩ | ⟨c,H',hc,hX⟩
 ·refine wpAny_call (codeAny_mono (hc A s₁ γ ρ₁ ms fa (hr.mono (Nat.le_succ _)) a₁.inv r₁ hfa) fun res s' p=>?_)
  cases res with
  | error e=>exact p.elim
  | ok fl=>
   cases fl<;>first | exact p.elim | skip
   obtain ⟨ρ',p1,p2,p3⟩:=p
   exact ⟨v,_,ρ',hQ,a₁.same,p1,p2,a₁.stp.trans p3⟩
 ·refine wpAny_call (codeAny_mono (hc A s₁ γ ρ₁ ms fa (hr.mono (Nat.le_succ _)) a₁.inv r₁ hfa) fun res s' p=>?_)
  cases res with
  | ok fl=>cases fl<;>exact p.elim
  | error e=>
   obtain ⟨ρ',p1,p2,p3⟩:=p
   exact ⟨c,_,ρ',hX,a₁.same,p1.back (a₁.stp.back a₁.inv),p2,a₁.stp.trans p3⟩
theorem to {t:String} (ht:t∈tyNames):t∈bltNames∧eV t=.type t:=by
 simp only [tyNames,List.mem_cons,List.not_mem_nil,or_false] at ht
 rcases ht with rfl | rfl | rfl | rfl | rfl<;>decide
theorem tH {a:E} {pa pt:Expr} {p q:Pos} {W:V→St→Prop} {Q:V→St→Prop} {d:Value} (hk:cf sc "isinstance" =true) (hh:bq pa=true) (hpt:bq pt=true) (ha:SE C k sc a pa) (hs:env.scope=sc) (hr:bO (2*k+1) A γ) (I:Inv C γ ρ st.H s) (F:Fra γ env st ρ s) (w:wE (Calls C k) C.glo a st W X)
  (hn: ∀ {Q E:Value→Shared→Prop} {ρ st s},Inv C γ ρ st.H s→Fra γ env st ρ s→Q d s→wpAny C.M A (eval pt env) Q E s)
  (h: ∀ mv s' v st' ρ',W v st'→Rel s'.heap ρ' (Nl γ ρ' st'.H) v mv→At C γ env ρ st s ρ' st' s'→∃ b,Q (.bool b) st'∧wpAny C.M A (call (.builtin "isinstance") [mv,d]) (mS s' fun mv=>Rel s'.heap ρ' (Nl γ ρ' st'.H) (.bool b) mv) (bt C γ ρ st s X) s'):
  wpAny C.M A (eval (.Call (.Name ("isinstance" :String) p) [pa,pt] [] q) env) (ef C γ ρ st s Q) (bt C γ ρ st s X) s:=by
 refine Call_ (jZ I F (f:= "isinstance") (by decide) (hs▸hk) ?_)
 show wpAny C.M A (callWith q (.builtin "isinstance") [] _ []) _ _ s
 refine callWith_builtin1 (args_cons (ha.at hs hr (At.start I F) w fun mv s₁ v st₁ ρ₁ w₁ r₁ a₁ S₁=>args_cons (hn a₁.inv a₁.fra (args_nil ?_)) (cU hpt)) (cU hh)) (cU hh) (by rw [cU hpt]; rfl)
 obtain ⟨b,hQ,x⟩:=h mv s₁ v st₁ ρ₁ w₁ r₁ a₁
 exact wpAny_mono x (fun _ _ p=>a₁.sameP hQ p) fun _ _ x=>x
theorem xY {a:E} {t:String} {pa:Expr} {p p' q:Pos} (hk:cf sc "isinstance" =true) (ht:t∈tyNames) (hk':cf sc t=true) (hh:bq pa=true) (ha:SE C k sc a pa):SE C k sc (.isi a t) (.Call (.Name ("isinstance" :String) p) [pa,.Name (t:Str) p'] [] q):=fun env A s γ ρ st Q X hs hr I F w=>
 tH hk hh rfl ha hs hr I F w (fun I F h=>jZ I F (to ht).1 (hs▸hk') ((to ht).2▸h)) fun mv s' v st' ρ' w' r' a'=>by
  obtain ⟨X,e,hQ⟩:=w'
  exact ⟨_,hQ,sG a'.inv ht e r'⟩
theorem aR.one_inv {h:Heap} {N:Addr→Prop} {v:V} {ms:List Value} (r:aR h ρ N [v] ms): ∃ m,ms=[m]∧Rel h ρ N v m:=by
 obtain ⟨m,r',rfl,h1,h2⟩:=r.cons_inv
 rw [h2.nil_inv]; exact ⟨m,rfl,h1⟩
theorem rm {h:Heap} {N:Addr→Prop} {prog:Program} {w:World} {kvs:List (List Nat×V)} {ms:List (Str×Value)} (r:ga h ρ N sOf kvs ms):(∀ p∈kvs,p.1.length≤aA∧∀ c∈p.1,c < 128)→∀ vs:List Value,vs.length=ms.length→
  (∀ (j:Nat) v,vs[j]?= some v→∃ k x,ms[j]?= some (k,x)∧(strKind prog w).is k v=true)→aR h ρ N (kvs.map fun p=>V.str p.1) vs:=by
 induction r with
 | nil=>intro _ vs hl _; rw [List.eq_nil_of_length_eq_zero hl]; exact .nil
 | @cons k v kvs mv ms a _ ih=>
  intro hk vs hl hv
  cases vs with
  | nil=>cases hl
  | cons u vs=>
   obtain ⟨k',x,e1,e2⟩:=hv 0 u rfl
   cases e1
   obtain ⟨t,rfl⟩:=Value.isStrOf_shape e2
   obtain ⟨z1,z2⟩:=hk _ List.mem_cons_self
   exact .cons (.str t z1 z2) (ih (fun p hp=>hk p (List.mem_cons_of_mem _ hp)) vs (Nat.succ.inj hl) fun j w hw=>hv (j+1) w hw)
theorem sE {Ex:Value→Shared→Prop} {b:Addr} {ns:List Int} {ms:List Value} {m:Int} {Q:Value→Shared→Prop} (hh:A.handled=none) (hl:s.heap.PlainList b ms.toArray) (r:aR s.heap ρ (Nl γ ρ st.H) (ns.map .int) ms) (hm:m∈ns) (hmax: ∀ n∈ns,n≤m)
  (h: ∀ t h' tk,(∀ b o,s.heap.get? b=some o→h'.get? b=some o)→Q (.int m t) { s with heap:=h',toks:=tk }):wpAny C.M A (call (.builtin "max") [.ref b]) Q Ex s:=by
 have key: ∀ (ns:List Int) (ms:List Value),aR s.heap ρ (Nl γ ρ st.H) (ns.map .int) ms→∃ xs:List (Int×Tok),ms=xs.map (fun p=>Value.int p.1 p.2)∧xs.map (·.1)=ns:=by
  intro ns
  induction ns with
  | nil=>intro ms r; rw [r.nil_inv]; exact ⟨[],rfl,rfl⟩
  | cons n ns ih=>
   intro ms r
   obtain ⟨m,r',rfl,q1,q2⟩:=aR.cons_inv (v:=.int n) r
   obtain ⟨t,rfl⟩:=q1.int_inv
   obtain ⟨xs,rfl,rfl⟩:=ih r' q2
   exact ⟨(n,t)::xs,rfl,rfl⟩
 obtain ⟨xs,rfl,rfl⟩:=key ns ms r
 have hz:0 < xs.length:=by cases xs with
  | nil=>cases hm
  | cons _ _=>exact Nat.succ_pos _
 refine max_intList (xs:=xs.toArray) hh (by have:=hl.isList; simpa [intItems] using this) (by simpa using hz) fun v h' tk e k=>?_
 obtain ⟨t,rfl⟩:=intItems_at e
 obtain ⟨b1,b2⟩:=argBest_gt (numAt xs.toArray) (xs.toArray.size - 1)
 have at_: ∀ i,(hi:i < xs.length)→numAt xs.toArray i=(xs[i]).1:=fun i hi=>by simp [numAt,hi]
 rw [List.size_toArray] at b1 b2
 have lt:argBest (fun i j=>decide (numAt xs.toArray i > numAt xs.toArray j)) (xs.length - 1) < xs.length:=by exact li [_,_,_] [([1],[3]),([3,0],[2])] [1,0] [2] rfl b1 (l_d (lin [_] [(1,.a (.n 0) (.n 1),.v 0)] 1 (.n 1) (.v 0) rfl hz))
 have e2:numAt xs.toArray (argBest (fun i j=>decide (numAt xs.toArray i > numAt xs.toArray j)) (xs.toArray.size - 1))=m:=by
  rw [List.size_toArray]
  refine Int.le_antisymm ?_ ?_
  ·rw [at_ _ lt]; exact hmax _ (List.mem_map.mpr ⟨_,List.getElem_mem lt,rfl⟩)
  ·obtain ⟨p,h1,rfl⟩:=List.mem_map.mp hm
   obtain ⟨j,hj,rfl⟩:=List.getElem_of_mem h1
   rw [← at_ j hj]; exact b2 j (by exact li [j,_,_] [([1,0],[3]),([3],[2,0])] [1] [2] rfl hj (l_g _ _))
 rw [e2]
 exact h t h' tk k
theorem sJ {f:BN} {vs:List V} {ms:List Value} {Q:V→St→Prop} (hr:bO (2*k+1) A γ) (a:At C γ env ρ₀ st₀ s₀ ρ st s) (r:aR s.heap ρ (Nl γ ρ st.H) vs ms) (w:Fi f vs st Q):
  wpAny C.M A (call (eV f.name) ms) (ef C γ ρ₀ st₀ s₀ Q) (bt C γ ρ₀ st₀ s₀ X) s:=by
 rcases w with ⟨v,e,w⟩ | ⟨xs,e,w⟩
 ·cases e with
  | len e=>
   obtain ⟨m,rfl,r1⟩:=r.one_inv
   exact wpAny_mono (sF a.inv e r1) (fun _ _ p=>a.sameP w p) fun _ _ x=>x
  | str h=>
   obtain ⟨m,rfl,r1⟩:=r.one_inv
   obtain ⟨t,rfl⟩:=r1.int_inv
   exact wpAny_mono (lU (ρ:=ρ) (H:=st.H) h) (fun _ _ p=>a.sameP w p) fun _ _ x=>x
  | int b=>
   obtain ⟨m,rfl,r1⟩:=r.one_inv
   obtain rfl:=r1.bool_inv
   exact wpAny_mono (kP (ρ:=ρ) (H:=st.H)) (fun _ _ p=>a.sameP w p) fun _ _ x=>x
  | @intT cs hd hne hl=>
   obtain ⟨m,rfl,r1⟩:=r.one_inv
   obtain ⟨t,rfl,_⟩:=r1.str_inv
   exact PySem.W.KIN.call_text (PySem.intText_digits (x:=sOf cs) hd hne (by rw [bu]; exact lin [_] [(1,.v 0,.n 300)] 1 (.v 0) (.n 4300) rfl hl)) (by rw [bu]; exact lin [_] [(1,.v 0,.n 300)] 1 (.v 0) (.n 640) rfl hl) (a.sameP w ⟨Rel.int _ _,_,rfl⟩)
  | @intN cs hd hne hl=>
   obtain ⟨m,rfl,r1⟩:=r.one_inv
   obtain ⟨t,rfl,_⟩:=r1.str_inv
   exact PySem.W.KIN.call_text (PySem.intText_neg (x:=sOf (45::cs)) (cs:=cs) (by simp) hd hne (by rw [bu,List.length_cons]; exact lin [_] [(1,.v 0,.n 300)] 1 (.a (.v 0) (.n 1)) (.n 4300) rfl hl)) (by rw [bu,List.length_cons]; exact lin [_] [(1,.v 0,.n 300)] 1 (.a (.v 0) (.n 1)) (.n 640) rfl hl) (a.sameP w ⟨Rel.int _ _,_,rfl⟩)
  | @max1 _ ns m hz e hm hmax=>
   obtain ⟨mv,rfl,r1⟩:=r.one_inv
   obtain ⟨b,ms,rfl,hl,hrr,_⟩:=a.inv.view r1 e
   exact sE (hr.handled a.inv hz) hl hrr hm hmax fun t h' tk k=>(a.grew (s':={ s with heap:=h',toks:=tk }) ⟨k,rfl,rfl⟩).post w (.int m t)
  | max2 x y hz=>
   obtain ⟨m,r',rfl,q1,r2⟩:=r.cons_inv
   obtain ⟨m',rfl,q2⟩:=r2.one_inv
   obtain ⟨t,rfl⟩:=q1.int_inv
   obtain ⟨u,rfl⟩:=q2.int_inv
   refine max_two_ints (hr.handled a.inv hz) fun h' tk k=>(a.grew (s':={ s with heap:=h',toks:=tk }) ⟨k,rfl,rfl⟩).post w ?_
   by_cases h:y > x
   ·rw [if_pos h,show max x y=y by lia]; exact .int _ _
   ·rw [if_neg h,show max x y=x by lia]; exact .int _ _
  | min2 x y hz=>
   obtain ⟨m,r',rfl,q1,r2⟩:=r.cons_inv
   obtain ⟨m',rfl,q2⟩:=r2.one_inv
   obtain ⟨t,rfl⟩:=q1.int_inv
   obtain ⟨u,rfl⟩:=q2.int_inv
   refine min_two_ints (hr.handled a.inv hz) fun h' tk k=>(a.grew (s':={ s with heap:=h',toks:=tk }) ⟨k,rfl,rfl⟩).post w ?_
   by_cases h:y < x
   ·rw [if_pos h,show min x y=y by lia]; exact .int _ _
   ·rw [if_neg h,show min x y=x by lia]; exact .int _ _
  | range1 b=>
   obtain ⟨m,rfl,r1⟩:=r.one_inv
   obtain ⟨t,rfl⟩:=r1.int_inv
   exact wpAny_mono (lX a.inv) (fun _ _ p=>a.grewP w p) fun _ _ x=>x
  | range2 _ _=>
   obtain ⟨m,r',rfl,q1,r2⟩:=r.cons_inv
   obtain ⟨m',rfl,q2⟩:=r2.one_inv
   obtain ⟨t,rfl⟩:=q1.int_inv
   obtain ⟨u,rfl⟩:=q2.int_inv
   exact wpAny_mono (lW a.inv) (fun _ _ p=>a.grewP w p) fun _ _ x=>x
 ·cases e with
  | list e=>
   obtain ⟨m,rfl,r1⟩:=r.one_inv
   obtain ⟨b,ms,rfl,hl,hrr,hlen⟩:=a.inv.view r1 e
   exact wpAny_mono (lY hl hrr hlen) (fun _ _ p=>a.newP w p) fun _ _ x=>x
  | @listS i kvs hz h=>
   obtain ⟨m,rfl,r1⟩:=r.one_inv
   obtain ⟨d,rfl,hd⟩:=r1.loc_inv
   obtain ⟨ms,hD,hrr,⟨hl,hm⟩,hk⟩:=a.inv.obj _ d _ hd h
   obtain ⟨ep,hat⟩:=hD.dictAt
   refine PySem.W.kdl_call (PySem.W.kdl_dict (knd:=strKind C.prog C.w) (kvs:=ms) (ep:=ep) (beq_eq_false_iff_ne.mpr hm)) (hr.handled a.inv hz) hat (by rw [← hrr.length]; exact hl) fun h' tk acc c k ho it=>?_
   refine a.newP w ⟨s.heap.objs.size,acc.toList,rfl,aN _,⟨k,rfl,rfl⟩,⟨c,by simpa using ho⟩,rm hrr hk acc.toList (by rw [Array.length_toList]; exact it.1) fun j v e=>it.2 j v (by rw [← Array.getElem?_toList]; exact e),by rw [List.length_map]; exact hl⟩
  | sorted e hk hlen hp hs=>
   obtain ⟨m,rfl,r1⟩:=r.one_inv
   obtain ⟨b,ms,rfl,hl,hrr,_⟩:=a.inv.view r1 e
   exact wpAny_mono (lV hl hrr hk hlen hp hs) (fun _ _ p=>a.newP w p) fun _ _ x=>x
theorem zW (f:BN):f.name∈bltNames:=by cases f<;>decide
theorem yd {f:BN} {es:Es} {pes:List Expr} {p q:Pos} (hk:cf sc f.name=true) (hne:pes≠[]) (hes:SEs C k sc es pes):SE C k sc (.blt f es) (.Call (.Name (f.name:Str) p) pes [] q):=fun env A s γ ρ st Q X hs hr I F w=>by
 refine Call_ (jZ I F (zW f) (hs▸hk) ?_)
 have key: ∀ f',wpAny C.M A (evalArgs f' true (backTo q (starEach pes env)) []) (fun a s₁=>wpAny C.M A (call (eV f.name) ([]++a.pos) a.kw) (ef C γ ρ st s Q) (bt C γ ρ st s X) s₁) (bt C γ ρ st s X) s:=
  fun f'=>bR hes hs hr (At.start I F) w fun ms s₁ vs st₁ ρ₁ hn w₁ r₁ a₁ S₁=>sJ hr a₁ r₁ w₁
 have two:(∃ g,eV f.name=.builtin g)∨∃ g,eV f.name=.type g:=by
  unfold eV
  by_cases h:["len", "isinstance", "sorted", "max", "min"].contains f.name=true
  ·rw [if_pos h]; exact .inl ⟨_,rfl⟩
  ·rw [if_neg h]; exact .inr ⟨_,rfl⟩
 rcases two with ⟨g,e⟩ | ⟨g,e⟩
 ·rw [e] at key ⊢
  exact Calls.callWith_builtin (cV hes.1) (key _)
 ·rw [e] at key ⊢
  exact PySem.callWith_type (cV hes.1) (key _)
end
end
noncomputable section
open PySem PyProof.Rows
variable {γ:Gh}
theorem Inv.upd {C:Cx} {ρ:List Addr} {H:List HO} {s s':Shared} {i:Nat} {a:Addr} {o o':HO} (I:Inv C γ ρ H s) (ha:ρ[i]?= some a) (hH:H[i]?= some o) (hl:o.isLive=true) (hl':o'.isLive=true)
  (sb: ∀ b,b≠a→s'.heap.get? b=s.heap.get? b) (ht: ∃ x,s'.heap.get? a=some x) (hg:s'.gens=s.gens) (hos:s'.os=s.os)
  (r:cF s.heap ρ (Nl γ ρ H) s'.heap ρ (Nl γ ρ (H.set i o'))→tj C s'.heap ρ (Nl γ ρ (H.set i o')) o' a):Inv C γ ρ (H.set i o') s'∧Stp ρ H s ρ (H.set i o') s':=by
 have live:Lv ρ H a:=⟨i,o,ha,hH,hl⟩
 have na: ¬ γ.h a:=I.live_nh live
 have lv: ∀ b,Lv ρ (H.set i o') b→Lv ρ H b:=fun b ⟨j,x,h1,h2,h3⟩=>by
  rcases bj h2 with ⟨rfl,_,_⟩ | ⟨_,h2⟩
  ·rw [ha] at h1; cases h1; exact live
  ·exact ⟨j,x,h1,h2,h3⟩
 have kp:cF s.heap ρ (Lv ρ H) s'.heap ρ (Lv ρ (H.set i o')):=
  ⟨fun b x e n=>⟨x,(sb b (fun q=>n (q▸live))).trans e,.refl x⟩,fun b q=>.inl (lv b q),fun _ _ e=>e⟩
 refine ⟨⟨fun b x e=>(sb b fun q=>?_).trans (I.base b x e),by rw [List.length_set]; exact I.len,I.nodup,I.fresh,fun b hb=>?_,fun j b x e1 e2=>?_,I.apart,?_,fun b q=>?_,I.off,(fun b q=>let ⟨x,es,n,e,d⟩:=I.frm b q; ⟨x,es,n,(sb b fun z=>na (z▸γ.fh b q)).trans e,d⟩),I.hdl' kp,(fun z=>I.hq (dX hH (vU hl) z)),hg.trans I.gens,hos.trans I.os⟩,⟨kp⟩⟩
 ·rw [q,I.fresh a (List.mem_of_getElem? ha)] at e; cases e
 ·by_cases q:b=a
  ·rw [q]; exact ht
  ·obtain ⟨x,hx⟩:=I.there b hb; exact ⟨x,(sb b q).trans hx⟩
 ·rcases bj e2 with ⟨rfl,rfl,_⟩ | ⟨ne,e2⟩
  ·rw [ha] at e1; cases e1; exact r kp.gh
  ·exact (I.obj j b x e1 e2).kept kp.gh fun y hy=>(sb b fun q=>ne (eM I.nodup ha (q▸e1))).trans hy
 ·intro j b x e1 q e2
  rcases bj e2 with ⟨rfl,_,_⟩ | ⟨_,e2⟩
  ·rw [ha] at e1; cases e1; exact absurd (γ.bh _ q) na
  ·exact I.bor j b x e1 q e2
 ·obtain ⟨x,hx⟩:=I.held b q
  exact ⟨x,(sb b fun e=>na (e▸q)).trans hx⟩
section
variable {C:Cx} {k:Nat} {sc:Scope} {env:Env} {A:Around} {ρ₀:List Addr} {st₀:St} {s₀:Shared} {ρ:List Addr} {st:St} {s:Shared} {X:String→St→Prop}
theorem md {i:Nat} {xs:List V} {v:V} {m mv:Value} {Q:V→St→Prop} (at_:At C γ env ρ₀ st₀ s₀ ρ st s) (ro:Rel s.heap ρ (Nl γ ρ st.H) (.loc i) m) (hH:st.H[i]?= some (.list xs)) (r:Rel s.heap ρ (Nl γ ρ st.H) v mv) (hl:xs.length < 16000000)
  (w:Q .none ⟨st.s,st.H.set i (.list (xs++[v]))⟩):wpAny C.M A (call (.builtin "list.append") [m,mv]) (ef C γ ρ₀ st₀ s₀ Q) (bt C γ ρ₀ st₀ s₀ X) s:=by
 obtain ⟨a,rfl,ha⟩:=ro.loc_inv
 obtain ⟨ms,hp,hr,hlen⟩:=at_.inv.obj i _ _ ha hH
 refine wpAny_list_append_plain hp (fun h' hp' sb=>?_) (by rw [ba,List.size_toArray,← hr.length]; exact hlen)
 obtain ⟨I',S'⟩:=at_.inv.upd (s':={ s with heap:=h' }) (o':=.list (xs++[v])) ha hH rfl rfl sb.2 (cG hp') rfl rfl fun kp=>
  ⟨ms++[mv],by simpa using hp',(hr.kept kp).append (.cons (r.kept kp) .nil),by rw [List.length_append]; unfold aA; exact Nat.le_trans (Nat.succ_le_of_lt hl) (by decide)⟩
 exact ⟨_,_,ρ,w,at_.same,.none,I',at_.stp.trans S'⟩
theorem iY (a b:List Nat):Txt.startswith ⟨a.toArray⟩ ⟨b.toArray⟩=b.isPrefixOf a:=by
 unfold Txt.startswith
 rw [StrLaws.subAt_eq,bu,bu,Bool.eq_iff_iff]
 simp only [Bool.and_eq_true,decide_eq_true_eq,beq_iff_eq,List.drop_zero,List.isPrefixOf_iff_prefix]
 constructor
 ·rintro ⟨_,h⟩
  rw [← h]; exact List.take_prefix _ _
 ·intro h
  exact ⟨by have:=h.length_le; exact lin [_,_] [(1,.v 0,.v 1)] 1 (.a (.n 0) (.v 0)) (.v 1) rfl this,(List.prefix_iff_eq_take.mp h).symm⟩
theorem mO {pe:Expr} {name:Str} {env:Env} {whole:Sem Value} (h:bq pe=true):attributeBase pe name env whole=whole:=by
 cases pe<;>first | rfl | skip
 rename_i f es kw p
 cases es with
 | nil=>cases f<;>first | rfl | cases h
 | cons _ _=>cases f<;>rfl
noncomputable def MN.id (m:MN):String:=MN.rec "list.append" "str.startswith" "list.pop" "list.index" "str.split" "str.join" "dict.get" "list.extend" m
theorem jg {h:Heap} {N:Addr→Prop} (ss:List (List Nat)): ∀ {ms:List Value},aR h ρ N (ss.map .str) ms→StrsAre ms (ss.map sOf)∧(∀ s∈ss,s.length≤aA∧∀ c∈s,c < 128):=by
 induction ss with
 | nil=>intro ms r; rw [r.nil_inv]; exact ⟨.nil,fun _ h=>absurd h List.not_mem_nil⟩
 | cons x ss ih=>
  intro ms r
  obtain ⟨m,r',rfl,q1,q2⟩:=aR.cons_inv (v:=.str x) r
  obtain ⟨t,rfl,h1,h2⟩:=q1.str_inv
  obtain ⟨i1,i2⟩:=ih q2
  refine ⟨.cons _ t i1,fun s hs=>?_⟩
  rcases List.mem_cons.mp hs with rfl | hs
  ·exact ⟨h1,h2⟩
  ·exact i2 s hs
theorem jj (a b:List Nat):sOf a++sOf b=sOf (a++b):=dm a b
theorem jr (sep:List Nat) (ss:List (List Nat)):Str.join (sOf sep) (ss.map sOf)=sOf (bf sep ss):=by
 induction ss with
 | nil=>rfl
 | cons p ss ih=>
  cases ss with
  | nil=>rw [bf]; show sOf p=_; rw [List.flatMap_nil,List.append_nil]
  | cons q ss=>
   rw [cL,← jj,← jj,← ih]
   show sOf p++sOf sep++Str.join (sOf sep) ((q::ss).map sOf)=_
   rw [Str.append_assoc]
theorem lN {x:List Nat} {c:Nat} {ps:List (List Nat)} (hne:ps≠[]) (hj:bf [c] ps=x) (hf: ∀ p∈ps,c ∉ p):Txt.split (sOf x) ⟨#[c]⟩=ps.map sOf:=by
 have back: ∀ l:List Str,l=(l.map fun y=>y.cps.toList).map sOf:=fun l=>by
  rw [List.map_map]
  exact (List.map_id l).symm.trans (List.map_congr_left fun y _=>rfl)
 have h1:=StrLaws.join_split (sOf x) ⟨#[c]⟩
 have h2:=StrLaws.split_free (sOf x) c
 have hl0:Txt.split (sOf x) ⟨#[c]⟩≠[]:=fun e=>by
  rw [e] at h1
  have e1:x=[]:=fq _ _ h1.symm
  subst e1
  rw [Txt.split,if_pos (by simp [Str.length])] at e
  cases e
 generalize Txt.split (sOf x) ⟨#[c]⟩=l at h1 h2 hl0
 rw [back l]
 refine congrArg _ (qK _ _ (fun e=>hl0 (List.map_eq_nil_iff.mp e)) hne (fun p hp=>?_) hf ?_)
 ·obtain ⟨y,hy,rfl⟩:=List.mem_map.mp hp
  exact h2 y hy
 ·rw [back l,show (⟨#[c]⟩:Str)=sOf [c] from rfl,jr] at h1
  rw [hj]; exact fq _ _ h1
theorem oM {Ex:Value→Shared→Prop} {N:Addr→Prop} {b:Addr} {ss:List (List Nat)} {ns:List Value} {k:List Nat} {t:Tok} {i:Nat} {Q:Value→Shared→Prop} (hl:s.heap.PlainList b ns.toArray) (r:aR s.heap ρ N (ss.map .str) ns) (hlen:(ss.map V.str).length≤aA)
  (hg:ss[i]?= some k) (hn: ∀ j,j < i→ss[j]?≠some k) (h:Q (.int i s.toks) { s with toks:=s.toks+1 }):wpAny C.M A (call (.builtin "list.index") [.ref b,.str (sOf k) t]) Q Ex s:=by
 obtain ⟨n,ho⟩:=hl
 obtain ⟨hS,_⟩:=jg ss r
 have hlen':=r.length
 rw [List.length_map] at hlen' hlen
 have hi:=(List.getElem?_eq_some_iff.mp hg).1
 have at_: ∀ j (hj:j < ss.length) (hj':j < ns.length),isStrOf (sOf k) ns[j]=decide (ss[j]=k):=fun j hj hj'=>by
  obtain ⟨t',e⟩:=hS.at (j:=j) (y:=sOf ss[j]) (by rw [List.getElem?_map,List.getElem?_eq_getElem hj]; rfl)
  rw [(List.getElem?_eq_some_iff.mp e).2]
  show (sOf ss[j] == sOf k)=_
  rw [kI,Bool.eq_iff_iff,beq_iff_eq,decide_eq_true_eq]
 refine call_meets PySem.F.slot_list_index ⟨_,ho,rfl⟩ PySem.F.entry_list_index (PySem.F.args_list_index_2 _ _)
  (PySem.SeqAt.list_indexAt b ns.toArray n none #[] (.str (sOf k) t) (isStrOf (sOf k)) i (by rw [List.size_toArray,← hlen']; exact hi) (by unfold aA at hlen; lia) ?_ ?_) ⟨ho,fun y hy=>(eq_isStrOf (sOf k) t hS y (by simpa using hy)).at _ _,h⟩
 ·show isStrOf (sOf k) ns[i]=true
  rw [at_ i hi (hlen'▸hi)]; exact decide_eq_true (List.getElem?_eq_some_iff.mp hg).2
 ·intro j hj hji
  show isStrOf (sOf k) ns[j]=false
  have hj2:j < ss.length:=Nat.lt_trans hji hi
  rw [at_ j hj2 (hlen'▸hj2)]; exact decide_eq_false fun e=>hn j hji (by rw [List.getElem?_eq_getElem hj2,e])
theorem qJ (sep:List Nat) (ss:List (List Nat)):(ss.map List.length).sum≤(bf sep ss).length:=by
 cases ss with
 | nil=>exact Nat.le_refl _
 | cons p ss=>
  rw [bf,List.length_append,List.map_cons,List.sum_cons]
  refine Nat.add_le_add_left ?_ _
  induction ss with
  | nil=>exact Nat.le_refl _
  | cons q ss ih=>
   rw [List.flatMap_cons,List.length_append,List.length_append,List.map_cons,List.sum_cons]
   exact li [_,_,_,_] [([2],[4])] [1,2] [3,1,4] rfl ih
theorem qI {sep:List Nat} {ss:List (List Nat)} {c:Nat} (h:c∈bf sep ss):c∈sep∨∃ s∈ss,c∈s:=by
 cases ss with
 | nil=>cases h
 | cons p ss=>
  rcases List.mem_append.mp h with h | h
  ·exact .inr ⟨p,List.mem_cons_self,h⟩
  ·obtain ⟨q,h1,h2⟩:=List.mem_flatMap.mp h
   rcases List.mem_append.mp h2 with h | h
   ·exact .inl h
   ·exact .inr ⟨q,List.mem_cons_of_mem _ h1,h⟩
theorem qo {Ex:Value→Shared→Prop} {N:Addr→Prop} {b:Addr} {sep:List Nat} {ss:List (List Nat)} {ns:List Value} {t:Tok} {Q:Value→Shared→Prop} (hl:s.heap.PlainList b ns.toArray) (r:aR s.heap ρ N (ss.map .str) ns)
  (hsz:(bf sep ss).length+(ss.length+1)*(sep.length+1)≤16000000) (hsep: ∀ c∈sep,c < 128) (h: ∀ t' tk,(∀ t',Rel s.heap ρ N (.str (bf sep ss)) (.str (sOf (bf sep ss)) t'))→Q (.str (sOf (bf sep ss)) t') { s with toks:=tk }):
  wpAny C.M A (call (.builtin "str.join") [.str (sOf sep) t,.ref b]) Q Ex s:=by
 obtain ⟨hS,hall⟩:=jg ss r
 have e1:((ss.map sOf).map (·.length)).sum=(ss.map List.length).sum:=by
  rw [List.map_map]; exact congrArg _ (List.map_congr_left fun x _=>bu x)
 have e2:=qJ sep ss
 have e3:ss.length*sep.length≤(ss.length+1)*(sep.length+1):=Nat.mul_le_mul (Nat.le_succ _) (Nat.le_succ _)
 refine PyProof.Rows.join_list hl.isList (by simpa using hS) (by rw [e1,List.length_map,bu]; exact lin [_,_,_,_] [(1,.a (.v 2) (.v 3),.n 16000000),(1,.v 0,.v 2),(1,.v 1,.v 3)] 1 (.a (.v 0) (.v 1)) (.n 16777216) rfl hsz e2 e3) fun t' k=>?_
 have e4:Txt.join (sOf sep) (ss.map sOf)=sOf (bf sep ss):=(StrLaws.glued_eq_join _ _).trans (jr sep ss)
 rw [e4]
 refine h t' k fun t'=>.str t' (by unfold aA; exact lin [_,_] [(1,.a (.v 0) (.v 1),.n 16000000)] 1 (.v 0) (.n 16777216) rfl hsz) fun c hc=>?_
 rcases qI hc with h | ⟨x,h1,h2⟩
 ·exact hsep c h
 ·exact (hall x h1).2 c h2
theorem lL (xs:List Str): ∀ (tk:Nat) (j:Nat) (v:Value),(strsFrom tk xs)[j]?= some v→∃ y t,xs[j]?= some y∧v=.str y t:=by
 induction xs with
 | nil=>intro _ _ _ h; cases h
 | cons x xs ih=>
  intro tk j v h
  cases j with
  | zero=>cases h; exact ⟨x,tk,rfl,rfl⟩
  | succ j=>exact ih (tk+1) j v h
theorem oK {Ex:Value→Shared→Prop} {N:Addr→Prop} {x:List Nat} {c:Nat} {ps:List (List Nat)} {t u:Tok} (hx:x.length≤16000000) (hs: ∀ c∈x,c < 128) (hne:ps≠[]) (hj:bf [c] ps=x) (hf: ∀ p∈ps,c ∉ p):
  wpAny C.M A (call (.builtin "str.split") [.str (sOf x) t,.str (sOf [c]) u]) (cx s ρ N (ps.map .str)) Ex s:=by
 have e:=lN hne hj hf
 have len:ps.length≤x.length+1:=by
  rw [← hj]
  cases ps with
  | nil=>exact absurd rfl hne
  | cons p ps=>
   rw [bf,List.length_append,List.length_cons]
   have:ps.length≤(ps.flatMap fun q=>[c]++q).length:=by
    clear hne hj hf e
    induction ps with
    | nil=>exact Nat.le_refl _
    | cons q ps ih=>rw [List.flatMap_cons,List.length_append,List.length_append,List.length_cons,List.length_singleton]; exact li [_,_,_] [([1],[3])] [1,0] [0,2,3] rfl ih
   exact li [_,_,_] [([1],[3])] [1,0] [2,3,0] rfl this
 have small: ∀ p∈ps,p.length≤x.length∧∀ d∈p,d∈x:=fun p hp=>by
  rw [← hj]
  cases ps with
  | nil=>cases hp
  | cons p' ps=>
   rcases List.mem_cons.mp hp with rfl | hp
   ·exact ⟨by rw [bf,List.length_append]; exact li [_,_] [] [1] [1,2] rfl,fun d hd=>List.mem_append.mpr (.inl hd)⟩
   ·have key:p.length≤(ps.flatMap fun q=>[c]++q).length∧∀ d∈p,d∈ps.flatMap fun q=>[c]++q:=by
     obtain ⟨l,r,rfl⟩:=List.append_of_mem hp
     rw [List.flatMap_append,List.flatMap_cons]
     exact ⟨by simp only [List.length_append]; exact lin [_,_,_,_] [] 1 (.v 0) (.a (.v 1) (.a (.a (.v 2) (.v 0)) (.v 3))) rfl,fun d hd=>by simp [hd]⟩
    exact ⟨by rw [bf,List.length_append]; exact li [_,_,_] [([1],[3])] [1] [2,3] rfl key.1,fun d hd=>List.mem_append.mpr (.inr (key.2 d hd))⟩
 have rel: ∀ l:List Str,∀ qs:List (List Nat),l=qs.map sOf→(∀ p∈qs,p∈ps)→∀ vs:List Value,vs.length=l.length→(∀ (j:Nat) v,vs[j]?= some v→∃ y t,l[j]?= some y∧v=.str y t)→aR s.heap ρ N (qs.map .str) vs:=by
  intro l qs
  induction qs generalizing l with
  | nil=>intro e1 _ vs hl _; subst e1; rw [List.eq_nil_of_length_eq_zero hl]; exact .nil
  | cons q qs ih=>
   intro e1 hq vs hl hv
   subst e1
   cases vs with
   | nil=>cases hl
   | cons v vs=>
    obtain ⟨y,t',h1,rfl⟩:=hv 0 v rfl
    cases h1
    obtain ⟨z1,z2⟩:=small q (hq q List.mem_cons_self)
    exact .cons (.str t' (by unfold aA; exact lin [_,_] [(1,.v 1,.n 16000000),(1,.v 0,.v 1)] 1 (.v 0) (.n 16777216) rfl hx z1) fun d hd=>hs d (z2 d hd)) (ih _ rfl (fun p hp=>hq p (List.mem_cons_of_mem _ hp)) vs (Nat.succ.inj hl) fun j w hw=>hv (j+1) w hw)
 have mlen:(ps.map V.str).length≤aA:=by rw [List.length_map]; unfold aA; exact lin [_,_] [(1,.v 1,.n 16000000),(1,.v 0,.a (.v 1) (.n 1))] 1 (.v 0) (.n 16777216) rfl hx len
 have itself:Txt.split (sOf x) (sOf [c])=[sOf x]→cx s ρ N (ps.map .str) (.ref s.heap.objs.size) { s with heap:=s.heap.push { cls:=.type "list",data:=.seq #[.str (sOf x) t]}}:=fun q=>
  ⟨_,[.str (sOf x) t],rfl,aN _,bP.push s _ s.toks,⟨0,Heap.get?_push_size _ rfl⟩,rel [sOf x] ps (q.symm.trans e) (fun _ h=>h) _ rfl (fun j v hv=>by
   cases j with
   | zero=>cases hv; exact ⟨_,t,rfl,rfl⟩
   | succ j=>cases hv),mlen⟩
 cases h1:(decide ((sOf x).length < (sOf [c]).length) || decide (Builtin.Str.strKind (sOf x) < Builtin.Str.strKind (sOf [c])))
 ·cases hf:(Builtin.Str.occurrences (sOf x) (sOf [c]) 0 (sOf x).length ((sOf x).length+1)).isEmpty
  ·have q:Txt.split (sOf x) (sOf [c])=Builtin.Str.partsBetween (sOf x) (Builtin.Str.occurrences (sOf x) (sOf [c]) 0 (sOf x).length ((sOf x).length+1)) (sOf [c]).length:=(if_neg (ne_true_of_eq_false h1)).trans (if_neg (ne_true_of_eq_false hf))
   have q':=q.symm.trans e
   refine call_meets F.slot_str_split (typeIs_str _ _ _) F.entry_str_split (F.args_str_split_2 _ _) (meets_str_split_sep (sOf x) (sOf [c]) t u h1 rfl hf (by rw [bu]; show x.length≤16777216; exact lin [_] [(1,.v 0,.n 16000000)] 1 (.v 0) (.n 16777216) rfl hx) (by rw [q',List.length_map]; show ps.length≤16777216; exact lin [_,_] [(1,.v 1,.n 16000000),(1,.v 0,.a (.v 1) (.n 1))] 1 (.v 0) (.n 16777216) rfl hx len)) ?_
   refine ⟨_,_,rfl,aN _,bP.push s _ _,⟨0,Heap.get?_push_size _ rfl⟩,rel _ ps q' (fun _ h=>h) _ (strsFrom_length _ _) (fun j v hv=>lL _ _ j v hv),mlen⟩
  ·exact call_meets F.slot_str_split (typeIs_str _ _ _) F.entry_str_split (F.args_str_split_2 _ _) (meets_str_split_not_found (sOf x) (sOf [c]) t u h1 rfl hf) (itself ((if_neg (ne_true_of_eq_false h1)).trans (if_pos hf)))
 ·exact call_meets F.slot_str_split (typeIs_str _ _ _) F.entry_str_split (F.args_str_split_2 _ _) (meets_str_split_cannot_occur (sOf x) (sOf [c]) t u h1) (itself (if_pos h1))
theorem sD {i:Nat} {xs:List V} {v:V} {m:Value} {Q:V→St→Prop} (at_:At C γ env ρ₀ st₀ s₀ ρ st s) (ro:Rel s.heap ρ (Nl γ ρ st.H) (.loc i) m) (hH:st.H[i]?= some (.list (xs++[v])))
  (w:Q v ⟨st.s,st.H.set i (.list xs)⟩):wpAny C.M A (call (.builtin "list.pop") [m]) (ef C γ ρ₀ st₀ s₀ Q) (bt C γ ρ₀ st₀ s₀ X) s:=by
 obtain ⟨a,rfl,ha⟩:=ro.loc_inv
 obtain ⟨ms,hp,hr,hlen⟩:=at_.inv.obj i _ _ ha hH
 obtain ⟨ps,y,rfl,h1,h2⟩: ∃ ps y,ms=ps++[y]∧aR s.heap ρ (Nl γ ρ st.H) xs ps∧Rel s.heap ρ (Nl γ ρ st.H) v y:=by
  clear hp hlen w hH
  induction xs generalizing ms with
  | nil=>obtain ⟨y,rfl,q⟩:=hr.one_inv; exact ⟨[],y,rfl,.nil,q⟩
  | cons x xs ih=>
   obtain ⟨z,r',rfl,q1,q2⟩:=aR.cons_inv (vs:=xs++[v]) hr
   obtain ⟨ps,y,rfl,h1,h2⟩:=ih _ q2
   exact ⟨z::ps,y,rfl,.cons q1 h1,h2⟩
 obtain ⟨n,ho⟩:=hp
 have hk:(ps++[y]).toArray.size - 1=ps.length:=by rw [List.size_toArray,List.length_append]; rfl
 have hl:=hr.length
 rw [List.length_append,List.length_append,List.length_singleton,List.length_singleton] at hl
 rw [List.length_append,List.length_singleton] at hlen
 refine call_meets PySem.F.slot_list_pop ⟨_,ho,rfl⟩ PySem.F.entry_list_pop (PySem.F.args_list_pop_1 _) (PySem.MeetsSeq.list_pop_last a _ n y (by rw [hk]; simp) (by rw [List.size_toArray,List.length_append,List.length_singleton]; show _≤16777216; unfold aA at hlen; exact lin [_,_] [(1,.a (.v 1) (.n 1),.n 16777216),(1,.a (.v 0) (.n 1),.a (.v 1) (.n 1))] 1 (.a (.v 0) (.n 1)) (.n 16777216) rfl hlen (l_s hl))) ⟨ho,?_⟩
 have q:=PySem.IsL.update ho fun xs=>xs.eraseIdxIfInBounds ((ps++[y]).toArray.size - 1)
 rw [show (ps++[y]).toArray.eraseIdxIfInBounds ((ps++[y]).toArray.size - 1)=ps.toArray by rw [hk,PySem.W.kl_erase,List.append_nil]] at q
 obtain ⟨I',S'⟩:=at_.inv.upd (s':={ s with heap:=s.heap.update a (Obj.mapSeq fun xs=>xs.eraseIdxIfInBounds ((ps++[y]).toArray.size - 1))}) (o':=.list xs) ha hH rfl rfl (fun b hb=>Heap.get?_update_other _ _ (Ne.symm hb)) ⟨_,q⟩ rfl rfl fun kp=>
  ⟨ps,⟨_,q⟩,h1.kept kp,by exact li [_,_] [([1,0],[2])] [1] [2] rfl hlen⟩
 exact ⟨_,_,ρ,w,at_.same,h2.kept S'.kept,I',at_.stp.trans S'⟩
theorem lZ {i:Nat} {xs ys:List V} {m mv:Value} {Q:V→St→Prop} (at_:At C γ env ρ₀ st₀ s₀ ρ st s) (ro:Rel s.heap ρ (Nl γ ρ st.H) (.loc i) m) (hH:st.H[i]?= some (.list xs)) (r:Rel s.heap ρ (Nl γ ρ st.H) (.lst ys) mv) (hl:xs.length+ys.length < 16000000)
  (w:Q .none ⟨st.s,st.H.set i (.list (xs++ys))⟩):wpAny C.M A (call (.builtin "list.extend") [m,mv]) (ef C γ ρ₀ st₀ s₀ Q) (bt C γ ρ₀ st₀ s₀ X) s:=by
 obtain ⟨a,rfl,ha⟩:=ro.loc_inv
 obtain ⟨ms,⟨n,ho⟩,hr,hlen⟩:=at_.inv.obj i _ _ ha hH
 obtain ⟨b,ns,rfl,⟨n2,ho2⟩,hr2,hlen2⟩:=at_.inv.view r (.lst ys)
 have hz:ms.toArray.size+ns.toArray.size≤sizeLine:=by rw [ba,List.size_toArray,List.size_toArray,← hr.length,← hr2.length]; exact Nat.le_trans (Nat.le_of_lt hl) (by decide)
 refine call_meets PySem.F.slot_list_extend ⟨_,ho,rfl⟩ PySem.F.entry_list_extend (PySem.F.args_list_extend_2 _ _) (PySem.AutoSeq1.list_extend_list_list_0 a ms.toArray n b ns.toArray n2 (extend_door hz) (Nat.le_trans (Nat.le_add_right _ _) hz) (Nat.le_succ_of_le hz)) ⟨ho,ho2,?_⟩
 have q:=PySem.IsL.update ho fun xs=>xs++ns.toArray
 rw [show ms.toArray++ns.toArray=(ms++ns).toArray by simp] at q
 obtain ⟨I',S'⟩:=at_.inv.upd (s':={ s with heap:=s.heap.update a (Obj.mapSeq fun xs=>xs++ns.toArray)}) (o':=.list (xs++ys)) ha hH rfl rfl (fun b hb=>Heap.get?_update_other _ _ (Ne.symm hb)) ⟨_,q⟩ rfl rfl fun kp=>
  ⟨ms++ns,⟨_,q⟩,(hr.kept kp).append (hr2.kept kp),by rw [List.length_append]; unfold aA; exact Nat.le_trans (Nat.le_of_lt hl) (by decide)⟩
 exact ⟨_,_,ρ,w,at_.same,.none,I',at_.stp.trans S'⟩
theorem sN {m:MN} {o:V} {mo:Value} {vs:List V} {ms:List Value} {Q:V→St→Prop} (hr:bO (2*k+1) A γ) (a:At C γ env ρ₀ st₀ s₀ ρ st s) (ro:Rel s.heap ρ (Nl γ ρ st.H) o mo) (r:aR s.heap ρ (Nl γ ρ st.H) vs ms) (w:EW m o vs st Q):
  wpAny C.M A (call (.builtin m.id) (mo::ms)) (ef C γ ρ₀ st₀ s₀ Q) (bt C γ ρ₀ st₀ s₀ X) s:=by
 rcases w with ⟨v,e,w⟩ | w
 ·cases e with
  | starts x y=>
   obtain ⟨m,rfl,r1⟩:=r.one_inv
   obtain ⟨t,rfl,_⟩:=ro.str_inv
   obtain ⟨u,rfl,_⟩:=r1.str_inv
   refine SC.startswith (a.post w ?_)
   rw [iY]; exact .bool _
  | index e hg hn=>
   obtain ⟨m,rfl,r1⟩:=r.one_inv
   obtain ⟨u,rfl,_⟩:=r1.str_inv
   obtain ⟨b,ns,rfl,hl,hrr,hlen⟩:=a.inv.view ro e
   exact oM hl hrr hlen hg hn (a.sameP w ⟨.int _ _,_,rfl⟩)
  | join e hsz=>
   obtain ⟨m,rfl,r1⟩:=r.one_inv
   obtain ⟨t,rfl,hs1,hs2⟩:=ro.str_inv
   obtain ⟨b,ns,rfl,hl,hrr,hlen⟩:=a.inv.view r1 e
   exact qo hl hrr hsz hs2 fun t' tk rr=>a.sameP w ⟨rr t',tk,rfl⟩
  | @get i kvs k d h=>
   obtain ⟨m,r',rfl,q1,r2⟩:=r.cons_inv
   obtain ⟨m',rfl,q2⟩:=r2.one_inv
   obtain ⟨t,rfl,_⟩:=q1.str_inv
   obtain ⟨b,rfl,hb⟩:=ro.loc_inv
   obtain ⟨ms,hd,hrr,⟨_,hm⟩,_⟩:=a.inv.obj _ b _ hb h
   refine call_meetsIn F.slot_dict_get hd.typeIs F.entry_dict_get (F.args_dict_get_3 _ _ _) (meets_dict_get_default (strKind C.prog C.w) b (k:=sOf k) (strKind_is _ _ _ t) (beq_eq_false_iff_ne.mpr hm) m') ⟨_,hd.mapOf,a.sameP w ⟨?_,_,rfl⟩⟩
   have g:=hrr.get fq k
   cases e:kvs.lookup k with
   | none=>rw [e] at g; rw [g]; exact q2
   | some v=>rw [e] at g; obtain ⟨mv,g1,g2⟩:=g; rw [g1]; exact g2
 rcases w with ⟨i,xs,v,⟨rfl,rfl,rfl⟩,hH,hl,w⟩ | w
 ·obtain ⟨m,rfl,r1⟩:=r.one_inv
  exact md a ro hH r1 hl w
 rcases w with ⟨i,xs,v,⟨rfl,rfl,rfl⟩,hH,w⟩ | w
 ·rw [r.nil_inv]
  exact sD a ro hH w
 rcases w with ⟨xs,e,w⟩ | w
 ·cases e with
  | split hx hne hj hf=>
   obtain ⟨m,rfl,r1⟩:=r.one_inv
   obtain ⟨t,rfl,hs1,hs2⟩:=ro.str_inv
   obtain ⟨u,rfl,_⟩:=r1.str_inv
   exact wpAny_mono (oK hx hs2 hne hj hf) (fun _ _ p=>a.newP w p) fun _ _ x=>x
 rcases w with ⟨i,xs,ys,⟨rfl,rfl,rfl⟩,hH,hl,w⟩ | w
 ·obtain ⟨m,rfl,r1⟩:=r.one_inv
  exact lZ a ro hH r1 hl w
 exact w.elim
theorem xX {m:MN} {a:E} {es:Es} {pa:Expr} {pes:List Expr} {ap p:Pos} (hh:bq pa=true) (hlt:pes.length < 20) (hline:ap.endLine=p.line) (ha:SE C k sc a pa) (hes:SEs C k sc es pes):SE C k sc (.mth m a es) (.Call (.Attribute pa (m.name:Str) ap) pes [] p):=fun env A s γ ρ st Q X hs hr I Fr w=>by
 have star:=cV (env:=env) (pos:=p) hes.1
 have few:((backTo p (starEach pes env)).all (fun x=>!x.1) && (backToKw p (keywordEach [] env)).all (fun x=>x.1.isSome) && decide (pes.length+([]:List Keyword).length+(if ([]:List Keyword).isEmpty then 0 else 1) < 30))=true:=by
  simp only [Bool.and_eq_true,decide_eq_true_eq]
  refine ⟨⟨?_,by rfl⟩,Nat.lt_trans hlt (by decide)⟩
  rw [List.all_eq_true]
  intro x hx
  have:=List.any_eq_false.mp star x hx
  simpa using this
 refine wpAny_Call_method_late (mO hh) few (by simpa using hline) rfl (ha.at hs hr (At.start I Fr) w fun mo s₁ o st₁ ρ₁ w₁ r₁ a₁ S₁=>?_)
 obtain ⟨hT,w₁⟩:=w₁
 have args:wpAny C.M A (callWith p (.builtin m.id) [mo] (backTo p (starEach pes env)) []) (ef C γ ρ st s Q) (bt C γ ρ st s X) s₁:=
  Calls.callWith_builtin star (bR hes hs hr a₁ w₁ fun ms s' vs st' ρ' _ w' r' a' S'=>sN hr a' (r₁.kept S'.kept) r' w')
 cases hT with
 | append e=>
  obtain ⟨b,ns,rfl,hl,_⟩:=a₁.inv.view r₁ e
  exact ⟨"list", "list.append",F.plainAttrs_list,F.slot_list_append,F.type_list_append,hl.isList.typeIs,fun a e=>by cases e; obtain ⟨n,q⟩:=hl; exact ⟨_,q,rfl⟩,args⟩
 | pop e=>
  obtain ⟨b,ns,rfl,hl,_⟩:=a₁.inv.view r₁ e
  exact ⟨"list", "list.pop",F.plainAttrs_list,F.slot_list_pop,F.type_list_pop,hl.isList.typeIs,fun a e=>by cases e; obtain ⟨n,q⟩:=hl; exact ⟨_,q,rfl⟩,args⟩
 | index e=>
  obtain ⟨b,ns,rfl,hl,_⟩:=a₁.inv.view r₁ e
  exact ⟨"list", "list.index",F.plainAttrs_list,F.slot_list_index,F.type_list_index,hl.isList.typeIs,fun a e=>by cases e; obtain ⟨n,q⟩:=hl; exact ⟨_,q,rfl⟩,args⟩
 | extend e=>
  obtain ⟨b,ns,rfl,hl,_⟩:=a₁.inv.view r₁ e
  exact ⟨"list", "list.extend",F.plainAttrs_list,F.slot_list_extend,F.type_list_extend,hl.isList.typeIs,fun a e=>by cases e; obtain ⟨n,q⟩:=hl; exact ⟨_,q,rfl⟩,args⟩
 | split t=>
  obtain ⟨u,rfl,_⟩:=r₁.str_inv
  exact ⟨"str", "str.split",F.plainAttrs_str,F.slot_str_split,F.type_str_split,typeIs_str _ _ _,(fun _ e=>nomatch e),args⟩
 | join t=>
  obtain ⟨u,rfl,_⟩:=r₁.str_inv
  exact ⟨"str", "str.join",F.plainAttrs_str,F.slot_str_join,F.type_str_join,typeIs_str _ _ _,(fun _ e=>nomatch e),args⟩
 | get h=>
  obtain ⟨b,rfl,hb⟩:=r₁.loc_inv
  obtain ⟨ms,hd,_⟩:=a₁.inv.obj _ b _ hb h
  exact ⟨"dict", "dict.get",F.plainAttrs_dict,F.slot_dict_get,F.type_dict_get,hd.typeIs,hd.mapOf.noDict,args⟩
 | starts t=>
  obtain ⟨u,rfl,_⟩:=r₁.str_inv
  exact ⟨"str", "str.startswith",F.plainAttrs_str,F.slot_str_startswith,F.type_str_startswith,typeIs_str _ _ _,(fun _ e=>nomatch e),args⟩
end
end
noncomputable section
open PySem PyProof.Rows
theorem ko:entryFor table "proto.unchain" =some Builtin.«proto.unchain»:=entryFor_of_tree (by kernel_rfl)
section
variable {prog:Program} {w:World} {A:Around} {E:Value→Shared→Prop} {s:Shared}
theorem gf {α:Type} {h e:Addr} {oe oh:Obj} {ves vs:Array Value} {Q:α→Shared→Prop} (hh:A.handled=some (.ref h)) (he:s.heap.get? e=some oe) (hd:oe.data=.fields ves) (h2:2 < ves.size) (hx:s.heap.get? h=some oh) (hdh:oh.data=.fields vs) (hv:vs[2]?= some .none) (hne:h≠e)
  (hE:E (.ref e) { s with heap:=s.heap.update e (Obj.mapFields (·.setIfInBounds 2 (.ref h)))}):wpAny (model prog w) A (raiseNew (.ref e):Sem α) Q E s:=by
 unfold raiseNew
 refine wpAny_bind (wpAny_handled ?_)
 rw [hh]
 have hb:(Value.ref h != Value.ref e)=true:=by simpa using hne
 simp only [hb,if_true]
 refine wpAny_bind (wpAny_holding (wpAny_runValue (codeAny_builtin ko ?_)))
 show wpAny _ _ (field (.ref h) 2 >>= _) _ _ s
 refine wpAny_bind (wpAny_field hx hdh hv ?_)
 refine wpAny_pure ?_
 show wpAny _ _ _ _ _ s
 refine wpAny_bind ?_
 unfold updateField
 refine wpAny_bind (wpAny_load he ?_)
 rw [hd]
 simp only [h2,if_true]
 exact wpAny_update he (wpAny_throw hE)
noncomputable def HOk (A:Around) (h:Heap):Prop:=∀ v,A.handled=some v→∃ e o vs,v=.ref e∧h.get? e=some o∧o.data=.fields vs∧vs[2]?= some .none
theorem fn {α:Type} {Q:α→Shared→Prop} (hk:HOk A s.heap) (hE: ∀ h' e,(∀ b o,s.heap.get? b=some o→h'.get? b=some o)→(∃ o,h'.get? e=some o∧o.cls=.type "StopIteration")→E (.ref e) { s with heap:=h' }):
  wpAny (model prog w) A (newExc (.type "StopIteration") [] >>= fun v=>(raiseNew v:Sem α)) Q E s:=by
 refine wpAny_bind ?_
 simp only [newExc,newTuple]
 refine wpAny_bind (wpAny_newObj_type ?_ (by size_fits))
 refine wpAny_bind (m:=firstArgMember _ _) (wpAny_of_eq (a:=Value.none) (by first | rfl | (simp only [firstArgMember]; rfl)) ?_)
 refine wpAny_newObj_type ?_ (by size_fits)
 generalize hO:(s.heap.push _).push _=h2
 generalize hE2:(s.heap.push _).objs.size=e2
 have kp: ∀ b o,s.heap.get? b=some o→h2.get? b=some o:=fun b o x=>by rw [← hO]; exact Heap.get?_push_of_some _ (Heap.get?_push_of_some _ x)
 cases hh:A.handled with
 | none=>exact wpAny_raiseNew_none hh (hE h2 e2 kp ⟨_,by rw [← hO,← hE2]; exact Heap.get?_push_size _ rfl,rfl⟩)
 | some v=>
  obtain ⟨h,oh,vs,rfl,q1,q2,q3⟩:=hk v hh
  have hne:h≠e2:=fun z=>by
   have:=Heap.lt_size q1
   rw [z,← hE2,size_push'] at this
   exact absurd this (Nat.not_lt.mpr (Nat.le_succ _))
  obtain ⟨oo,he,hcl,ves,hd,hsz⟩: ∃ oo,h2.get? e2=some oo∧oo.cls=.type "StopIteration" ∧∃ ves,oo.data=.fields ves∧2 < ves.size:=
   ⟨_,by rw [← hO,← hE2]; exact Heap.get?_push_size _ rfl,rfl,_,rfl,by rw [Array.size_append]; show 2 < 6+_; exact lin [_] [] 1 (.a (.n 2) (.n 1)) (.a (.n 6) (.v 0)) rfl⟩
  refine gf (s:={ s with heap:=h2 }) hh he hd hsz (kp _ _ q1) q2 q3 hne (hE _ e2 (fun b o x=>?_) ⟨_,Heap.get?_update_self _ he (Obj.isFreed_of_fields (Obj.data_mapFields hd _)),(Obj.cls_mapFields _ _).trans hcl⟩)
  rw [Heap.get?_update_other _ _ (fun z=>by
   have:=Heap.lt_size x
   rw [← z,← hE2,size_push'] at this
   exact absurd this (Nat.not_lt.mpr (Nat.le_succ _)))]
  exact kp b o x
theorem qk {it:Addr} {x left step:Int} {Q:Option Value→Shared→Prop} (hk:HOk A s.heap) (hit:IsRangeIter s.heap it x left step) (hleft:left≤0)
  (hQ: ∀ h',(∀ b o,b≠it→s.heap.get? b=some o→h'.get? b=some o)→Q none { s with heap:=h' }):wpAny (model prog w) A (pyNext (.ref it)) Q E s:=by
 have hT:s.TypeIs (.ref it) "range_iterator" :=⟨_,hit,rfl⟩
 unfold pyNext
 refine wpAny_bind (wpAny_attempt (wpAny_callSpecial?_slot (name:=Str.ofString "__next__") hT F.slot_range_iterator_next
  (wpAny_call_entry F.slot_range_iterator_next hT F.entry_range_iterator_next ?_ (F.args_range_iterator_next_1 _))))
 show wpAny _ _ (field (.ref it) 0 >>= _) _ _ s
 refine wpAny_bind (wpAny_field hit rfl (x:=rawInt x) rfl ?_)
 show wpAny _ _ (field (.ref it) 1 >>= _) _ _ s
 refine wpAny_bind (wpAny_field hit rfl (x:=rawInt left) rfl ?_)
 show wpAny _ _ (field (.ref it) 2 >>= _) _ _ s
 refine wpAny_bind (wpAny_field hit rfl (x:=rawInt step) rfl ?_)
 show wpAny _ _ (if left≤0 then _ else _) _ _ s
 rw [if_pos hleft]
 refine wpAny_bind (wpAny_rule ?_)
 refine wpAny_bind ?_
 show wpAny _ _ (newExc (.type "StopIteration") [] >>= _) _ _ _
 refine fn hk fun h' e kp he=>?_
 refine wpAny_bind (wpAny_isInstance (T:= "StopIteration") (b:=true) he isSubtype_stop ?_)
 exact wpAny_pure (hQ _ fun b o _ x=>kp b o x)
theorem HOk.at {h h':Heap} (hk:HOk A h) (k: ∀ v e,A.handled=some v→v=.ref e→∀ o,h.get? e=some o→h'.get? e=some o):HOk A h':=fun v hv=>by
 obtain ⟨e,o,vs,q1,q2,q3⟩:=hk v hv
 exact ⟨e,o,vs,q1,k v e hv q1 o q2,q3⟩
noncomputable def ej (A:Around):List Addr:=match A.handled with
 | some (.ref e)=>[e]
 | _=>[]
theorem cb {v:Value} {e:Addr} (h:A.handled=some v) (q:v=.ref e):e∈ej A:=by
 unfold ej; rw [h,q]; exact List.mem_cons_self
end
section
variable {prog:Program} {w:World} {A:Around}
theorem walks_range (I:Addr) (hI:I ∉ ej A) (a c:Int) (n:Nat):
  Walks prog w A I (I::ej A) [I] n (fun i v=>∃ t,v=.int (a+i*c) t) (fun i h=>IsRangeIter h I (a+(i:Nat)*c) ((n:Int) - (i:Nat)) c∧HOk A h) where
 sub:=fun b hb=>by simp at hb; simp [hb]
 frame:=fun _ _ _ st hk=>⟨hk I List.mem_cons_self _ st.1,st.2.at fun v e h1 h2 o ho=>hk e (List.mem_cons_of_mem _ (cb h1 h2)) o ho⟩
 item:=fun i s Q E hi st hQ=>by
  refine wpAny_pyNext_range_item st.1 (by lia) fun h' hit' hs'=>?_
  refine hQ _ h' _ ⟨_,rfl⟩ ⟨?_,st.2.at fun v e h1 h2 o ho=>hs'.extBut e o (fun z=>hI (z▸cb h1 h2)) ho⟩ fun b o hb e=>hs'.extBut b o (fun h=>hb (by simp [h])) e
  have e1:a+((i+1:Nat):Int)*c=a+(i:Int)*c+c:=by push_cast; rw [Int.add_mul,Int.one_mul,Int.add_assoc]
  have e2:(n:Int) - ((i+1:Nat):Int)=(n:Int) - (i:Int) - 1:=by push_cast; lia
  rw [e1,e2]; exact hit'
 done:=fun s Q E st hQ=>qk st.2 st.1 (by lia) fun h' he'=>hQ h' s.toks fun b o hb e=>he' b o (fun h=>hb (by simp [h])) e
 self:=fun _ _ _ _ st hQ=>wpAny_pyIter_rangeiter st.1 hQ
theorem sP {E:Value→Shared→Prop} {s:Shared} {it l:Addr} {i:Nat} {items:Array Value} {Q:Option Value→Shared→Prop} (hk:HOk A s.heap) (hI:it ∉ ej A)
  (hit:s.heap.IsListIter it l i) (hl:s.heap.IsList l items) (hx:items[i]?= none)
  (hQ: ∀ h',(∀ b o,b≠it→s.heap.get? b=some o→h'.get? b=some o)→Q none { s with heap:=h' }):wpAny (model prog w) A (pyNext (.ref it)) Q E s:=by
 obtain ⟨o,ho,hc,hd⟩:=id hit
 obtain ⟨ol,hol,_,nl,hdl⟩:=hl
 unfold pyNext
 refine wpAny_bind (wpAny_attempt (wpAny_callSpecial?_slot (name:=Str.ofString "__next__") hit.typeIs slot_listiter_next
  (wpAny_call_entry slot_listiter_next hit.typeIs entry_listiter_next ?_ (args_listiter_next _))))
 show wpAny _ _ (field (.ref it) 0 >>= _) _ _ s
 refine wpAny_bind (wpAny_field ho hd (x:=.ref l) rfl ?_)
 show wpAny _ _ (if (Value.ref l == Value.none)=true then _ else _) _ _ s
 rw [if_neg (show ¬ ((Value.ref l == Value.none)=true) from Bool.false_ne_true)]
 show wpAny _ _ (field (.ref it) 1 >>= _) _ _ s
 refine wpAny_bind (wpAny_field ho hd (x:=.int i 0) rfl ?_)
 show wpAny _ _ (seqItems? (.ref l) >>= _) _ _ s
 refine wpAny_bind (wpAny_seqItems hol hdl ?_)
 simp only [Int.toNat_natCast,hx]
 refine wpAny_bind (wpAny_rule (wpAny_bind (wpAny_setField ho hd (by simp) ?_)))
 have other: ∀ b,b≠it→∀ f:Obj→Obj,(s.heap.update it f).get? b=s.heap.get? b:=fun b hb f=>Heap.get?_update_other _ _ (Ne.symm hb)
 show wpAny _ _ (newExc (.type "StopIteration") [] >>= _) _ _ _
 refine fn (hk.at fun v e h1 h2 o ho=>(other e (fun z=>hI (z▸cb h1 h2)) _).trans ho) fun h' e kp he=>?_
 refine wpAny_bind (wpAny_isInstance (T:= "StopIteration") (b:=true) he isSubtype_stop ?_)
 exact wpAny_pure (hQ _ fun b o hb x=>kp b o ((other b hb _).trans x))
theorem walks_list (I ax:Addr) (hI:I ∉ ej A) (hne:ax≠I) (items:Array Value):
  Walks prog w A I (I::ax::ej A) [I] items.size (fun i v=>items[i]?= some v) (fun i h=>(h.IsListIter I ax i∧h.IsList ax items)∧HOk A h) where
 sub:=fun b hb=>by simp at hb; simp [hb]
 frame:=fun _ _ _ st hk=>⟨⟨st.1.1.at fun o e=>hk I List.mem_cons_self o e,st.1.2.at fun o e=>hk ax (List.mem_cons_of_mem _ List.mem_cons_self) o e⟩,st.2.at fun v e h1 h2 o ho=>hk e (List.mem_cons_of_mem _ (List.mem_cons_of_mem _ (cb h1 h2))) o ho⟩
 item:=fun i s Q E hi st hQ=>by
  refine wpAny_pyNext_list_item st.1.1 st.1.2 (x:=items[i]) (by simp [hi]) fun h' hit' hs'=>?_
  exact hQ _ h' s.toks (by simp [hi]) ⟨⟨hit',st.1.2.extBut hs'.extBut hne⟩,st.2.at fun v e h1 h2 o ho=>hs'.extBut e o (fun z=>hI (z▸cb h1 h2)) ho⟩ fun b o hb e=>hs'.extBut b o (fun h=>hb (by simp [h])) e
 done:=fun s Q E st hQ=>sP st.2 hI st.1.1 st.1.2 (by simp) fun h' he'=>hQ h' s.toks fun b o hb e=>he' b o (fun h=>hb (by simp [h])) e
 self:=fun _ _ _ _ st hQ=>wpAny_pyIter_listiter st.1.1 hQ
theorem uo {E:Value→Shared→Prop} {s:Shared} {it:Addr} {x:Str} {t:Tok} {i:Nat} {Q:Option Value→Shared→Prop} (hk:HOk A s.heap) (hI:it ∉ ej A)
  (hit:s.heap.IsStrIter it "str_ascii_iterator" x t i) (hx:x.cps[i]?= none)
  (hQ: ∀ h',(∀ b o,b≠it→s.heap.get? b=some o→h'.get? b=some o)→Q none { s with heap:=h' }):wpAny (model prog w) A (pyNext (.ref it)) Q E s:=by
 obtain ⟨o,ho,hc,hd⟩:=id hit
 unfold pyNext
 refine wpAny_bind (wpAny_attempt (wpAny_callSpecial?_slot (name:=Str.ofString "__next__") hit.typeIs F.slot_str_ascii_iterator_next
  (wpAny_call_entry F.slot_str_ascii_iterator_next hit.typeIs F.entry_str_ascii_iterator_next ?_ (F.args_str_ascii_iterator_next_1 _))))
 show wpAny _ _ (field (.ref it) 0 >>= _) _ _ s
 refine wpAny_bind (wpAny_field ho hd (x:=.str x t) rfl ?_)
 show wpAny _ _ (field (.ref it) 1 >>= _) _ _ s
 refine wpAny_bind (wpAny_field ho hd (x:=.int i 0) rfl ?_)
 simp only [Int.toNat_natCast,hx]
 refine wpAny_bind (wpAny_rule (wpAny_bind (wpAny_setField ho hd (by simp) (wpAny_bind (wpAny_letGo ?_)))))
 have other: ∀ b,b≠it→∀ f:Obj→Obj,(s.heap.update it f).get? b=s.heap.get? b:=fun b hb f=>Heap.get?_update_other _ _ (Ne.symm hb)
 show wpAny _ _ (newExc (.type "StopIteration") [] >>= _) _ _ _
 refine fn (hk.at fun v e h1 h2 o ho=>(other e (fun z=>hI (z▸cb h1 h2)) _).trans ho) fun h' e kp he=>?_
 refine wpAny_bind (wpAny_isInstance (T:= "StopIteration") (b:=true) he isSubtype_stop ?_)
 exact wpAny_pure (hQ _ fun b o hb x=>kp b o ((other b hb _).trans x))
theorem walks_str (I:Addr) (hI:I ∉ ej A) (x:Str) (t:Tok):
  Walks prog w A I (I::ej A) [I] x.cps.size (SignAt x) (fun i h=>h.IsStrIter I "str_ascii_iterator" x t i∧HOk A h) where
 sub:=fun b hb=>by simp at hb; simp [hb]
 frame:=fun _ _ _ st hk=>⟨let ⟨o,ho,r⟩:=st.1; ⟨o,hk I List.mem_cons_self o ho,r⟩,st.2.at fun v e h1 h2 o ho=>hk e (List.mem_cons_of_mem _ (cb h1 h2)) o ho⟩
 item:=fun i s Q E hi st hQ=>by
  refine wpAny_pyNext_ascii_item st.1 (c:=x.cps[i]) (by simp [hi]) fun h' hit' hs'=>?_
  exact hQ _ h' (s.toks+1) ⟨_,_,by simp [hi],rfl⟩ ⟨hit',st.2.at fun v e h1 h2 o ho=>hs'.extBut e o (fun z=>hI (z▸cb h1 h2)) ho⟩ fun b o hb e=>hs'.extBut b o (fun h=>hb (by simp [h])) e
 done:=fun s Q E st hQ=>uo st.2 hI st.1 (by simp) fun h' he'=>hQ h' s.toks fun b o hb e=>he' b o (fun h=>hb (by simp [h])) e
 self:=fun _ _ _ _ st hQ=>wpAny_pyIter_striter_ascii st.1 hQ
end
noncomputable def eg (γ:Gh) (a:Addr):Gh:=⟨fun b=>γ.h b∨b=a,γ.f,fun b q=>.inl (γ.fh b q),γ.e,γ.b,fun b q=>.inl (γ.bh b q)⟩
section
variable {C:Cx} {γ γ':Gh} {ρ ρ':List Addr} {H H':List HO} {s s':Shared} {st st':St} {env:Env} {a:Addr}
theorem Fra.kept (F:Fra γ env st ρ s) (K:cF s.heap ρ (Nl γ ρ st.H) s'.heap ρ' (Nl γ' ρ' st'.H)) (e:st'.s=st.s) (hs: ∀ b,γ.h b→γ'.h b)
  (kL: ∀ b o,γ.h b→s.heap.get? b=some o→∃ o',s'.heap.get? b=some o'∧dQ o o') (lv: ∀ b,γ.h b→¬ Lv ρ' st'.H b) (hb: ∀ b,γ'.b b→γ.b b):Fra γ' env st' ρ' s':=by
 obtain ⟨m,hm,hv⟩:=F.ns
 refine ⟨F.kind,F.glob,F.blt,lv _ F.own,hs _ F.own,⟨m,aO hm fun o ho=>kL _ o F.own ho,fun x v k kz q=>?_⟩,fun x k=>?_,F.apart,fun q=>F.nb (hb _ q),fun n c h=>⟨hs _ (F.nbc n c h).1,fun q=>(F.nbc n c h).2 (hb _ q)⟩⟩
 ·obtain ⟨mv,e1,e2⟩:=hv x v k kz (e▸q)
  exact ⟨mv,e1,e2.kept K⟩
 ·obtain ⟨c,ov,h1,h2,⟨oc,hoc,hdc⟩,h4⟩:=F.cell x k
  obtain ⟨o',ho',al⟩:=kL c oc h2.2 hoc
  refine ⟨c,ov,h1,⟨lv _ h2.2,hs _ h2.2⟩,⟨oc,by rw [ho',al.same fun es n q=>by rw [hdc] at q; cases q],hdc⟩,fun y hy v q=>?_⟩
  obtain ⟨mv,e1,e2⟩:=h4 y hy v (e▸q)
  exact ⟨mv,e1,e2.kept K⟩
theorem Inv.ghost_nl (I:Inv C γ ρ H s) (h:γ.h a): ¬ Lv ρ H a:=fun q=>I.live_nh q h
theorem Inv.ghost_new (I:Inv C γ ρ H s) (ha:s.heap.get? a=none): ¬ γ.h a:=fun q=>by
 obtain ⟨o,e⟩:=I.held a q; rw [ha] at e; cases e
theorem kX (g:bP s s') (ha:s.heap.get? a=none):cF s.heap ρ (Nl γ ρ H) s'.heap ρ (Nl (eg γ a) ρ H):=
 ⟨fun _ o e _=>⟨o,g.keep _ _ e,.refl o⟩,fun b q=>by
  rcases q with q | q | q
  ·exact .inl (.inl q)
  ·exact .inl (.inr q)
  ·exact .inr (q▸ha),fun _ _ e=>e⟩
theorem Inv.hold (I:Inv C γ ρ H s) (g:bP s s') (ha:s.heap.get? a=none) (ha': ∃ x,s'.heap.get? a=some x):Inv C (eg γ a) ρ H s':=
 ⟨fun b o e=>g.keep _ _ (I.base b o e),I.len,I.nodup,I.fresh,fun b e=>let ⟨o,q⟩:=I.there b e; ⟨o,g.keep _ _ q⟩,
  fun i b o e1 e2=>(I.obj i b o e1 e2).kept (kX g ha) fun x hx=>g.keep _ _ hx,
  (fun b e q=>by
   rcases q with q | q
   ·exact I.apart b e q
   ·subst q; obtain ⟨o,x⟩:=I.there b e; rw [ha] at x; cases x),I.bor,
  fun b q=>by
   rcases q with q | q
   ·obtain ⟨o,e⟩:=I.held b q; exact ⟨o,g.keep _ _ e⟩
   ·rw [q]; exact ha',
  fun b q=>by
   rcases q with q | q
   ·exact I.off b q
   ·rw [q]; exact I.none_above ha,(fun b q=>let ⟨o,es,n,e,d⟩:=I.frm b q; ⟨o,es,n,g.keep _ _ e,d⟩),(fun b q=>let ⟨⟨o,vs,e,d⟩,l,nh⟩:=I.hdl b q; ⟨⟨o,vs,g.keep _ _ e,d⟩,l,fun z=>z.elim nh fun z=>by rw [z,ha] at e; cases e⟩),I.hq,g.gens.trans I.gens,g.os.trans I.os⟩
theorem Fra.hold (F:Fra γ env st ρ s) (I:Inv C γ ρ st.H s) (g:bP s s') (ha:s.heap.get? a=none):Fra (eg γ a) env st ρ s':=
 F.kept (kX g ha) rfl (fun _=>.inl) (fun _ o _ e=>⟨o,g.keep _ _ e,.refl o⟩) (fun _ q=>I.ghost_nl q) fun _ q=>q
theorem dF (hs: ∀ b,γ.h b→γ'.h b):cF s.heap ρ (Nl γ' ρ H) s.heap ρ (Nl γ ρ H):=
 ⟨fun _ o e _=>⟨o,e,.refl o⟩,fun b q=>by
  rcases q with q | q
  ·exact .inl (.inl q)
  ·exact .inl (.inr (hs _ q)),fun _ _ e=>e⟩
theorem Inv.drop (I:Inv C γ' ρ H s) (hs: ∀ b,γ.h b→γ'.h b) (hf: ∀ b,γ.f b→γ'.f b) (he: ∀ b,γ.e b→γ'.e b) (hb: ∀ b,γ.b b ↔ γ'.b b):Inv C γ ρ H s:=
 ⟨I.base,I.len,I.nodup,I.fresh,I.there,fun i b o e1 e2=>(I.obj i b o e1 e2).kept (dF hs) fun x hx=>hx,fun b e q=>(hb b).mpr (I.apart b e (hs _ q)),fun i b o e1 q e2=>I.bor i b o e1 ((hb b).mp q) e2,fun b q=>I.held b (hs _ q),fun b q=>I.off b (hs _ q),fun b q=>I.frm b (hf b q),fun b q=>(let ⟨x,l,nh⟩:=I.hdl b (he b q); ⟨x,l,fun z=>nh (hs _ z)⟩),(fun z b q=>I.hq z b (he b q)),I.gens,I.os⟩
theorem bQ (hI:γ.h a) (k: ∀ b o,b≠a→s.heap.get? b=some o→s'.heap.get? b=some o):cF s.heap ρ (Nl γ ρ H) s'.heap ρ (Nl γ ρ H):=
 ⟨fun b o e n=>⟨o,k b o (fun q=>n (.inr (q▸hI))) e,.refl o⟩,fun _ q=>.inl q,fun _ _ e=>e⟩
theorem Inv.touch (I:Inv C γ ρ H s) (hI:γ.h a) (nb: ¬ γ.b a) (hfr:γ.f a→∃ o es n,s'.heap.get? a=some o∧o.data=.dict es n) (k: ∀ b o,b≠a→s.heap.get? b=some o→s'.heap.get? b=some o) (ht: ∃ x,s'.heap.get? a=some x) (hg:s'.gens=s.gens) (ho:s'.os=s.os):Inv C γ ρ H s':=
 ⟨fun b o e=>k b o (fun q=>by rw [q,I.off a hI] at e; cases e) (I.base b o e),I.len,I.nodup,I.fresh,
  fun b e=>let ⟨o,q⟩:=I.there b e; ⟨o,k _ _ (fun x=>nb (x▸I.apart b e (x▸hI))) q⟩,
  fun i b o e1 e2=>(I.obj i b o e1 e2).kept (bQ hI k) fun x hx=>k _ _ (fun q=>nb (q▸I.apart b (List.mem_of_getElem? e1) (q▸hI))) hx,I.apart,I.bor,
  fun b q=>by
   by_cases e:b=a
   ·rw [e]; exact ht
   ·obtain ⟨o,x⟩:=I.held b q; exact ⟨o,k b o e x⟩,I.off,fun b q=>by
   obtain ⟨o,es,n,e,d⟩:=I.frm b q
   by_cases x:b=a
   ·exact x▸hfr (x▸q)
   ·exact ⟨o,es,n,k b o x e,d⟩,fun b q=>(let ⟨⟨o,vs,e,d⟩,l,nh⟩:=I.hdl b q; ⟨⟨o,vs,k b o (fun x=>nh (x▸hI)) e,d⟩,l,nh⟩),I.hq,hg.trans I.gens,ho.trans I.os⟩
theorem eO (hI:γ'.h a) (sub: ∀ b,γ.h b→γ'.h b) (k: ∀ b o,b≠a→s.heap.get? b=some o→s'.heap.get? b=some o):cF s.heap ρ (Nl γ' ρ H) s'.heap ρ (Nl γ ρ H):=
 ⟨fun b o e n=>⟨o,k b o (fun q=>n (.inr (q▸hI))) e,.refl o⟩,fun b q=>.inl (q.imp id (sub b)),fun _ _ e=>e⟩
theorem Inv.lose (I:Inv C γ' ρ H s) (hI:γ'.h a) (nb: ¬ γ'.b a) (hb: ∀ b,γ.b b ↔ γ'.b b) (sub: ∀ b,γ.h b→γ'.h b) (hf: ∀ b,γ.f b→γ'.f b) (he: ∀ b,γ.e b→γ'.e b) (hn: ¬ γ.h a) (k: ∀ b o,b≠a→s.heap.get? b=some o→s'.heap.get? b=some o) (hg:s'.gens=s.gens) (ho:s'.os=s.os):Inv C γ ρ H s':=by
 have ne: ∀ b∈ρ,b≠a:=fun b e q=>nb (q▸I.apart b e (q▸hI))
 refine ⟨fun b o e=>k b o (fun q=>by rw [q,I.off a hI] at e; cases e) (I.base b o e),I.len,I.nodup,I.fresh,
  fun b e=>let ⟨o,q⟩:=I.there b e; ⟨o,k _ _ (ne b e) q⟩,fun i b o e1 e2=>(I.obj i b o e1 e2).kept (eO hI sub k) fun x hx=>k _ _ (ne b (List.mem_of_getElem? e1)) hx,
  fun b e q=>(hb b).mpr (I.apart b e (sub b q)),fun i b o e1 q e2=>I.bor i b o e1 ((hb b).mp q) e2,fun b q=>?_,fun b q=>I.off b (sub b q),(fun b q=>let ⟨o,es,n,e,d⟩:=I.frm b (hf b q); ⟨o,es,n,k b o (fun x=>hn (x▸γ.fh b q)) e,d⟩),(fun b q=>let ⟨⟨o,vs,e,d⟩,l,nh⟩:=I.hdl b (he b q); ⟨⟨o,vs,k b o (fun x=>nh (x▸hI)) e,d⟩,l,fun z=>nh (sub b z)⟩),(fun z b q=>I.hq z b (he b q)),hg.trans I.gens,ho.trans I.os⟩
 obtain ⟨o,x⟩:=I.held b (sub b q); exact ⟨o,k b o (fun e=>hn (e▸q)) x⟩
theorem Fra.lose {st₁:St} {ρ₁:List Addr} {s₁:Shared} (F:Fra γ' env st ρ s) (F₁:Fra γ env st₁ ρ₁ s₁) (hI:γ'.h a) (sub: ∀ b,γ.h b→γ'.h b) (hn: ¬ γ.h a) (k: ∀ b o,b≠a→s.heap.get? b=some o→s'.heap.get? b=some o):Fra γ env st ρ s':=by
 obtain ⟨m,hm,hv⟩:=F.ns
 have K:=eO (ρ:=ρ) (H:=st.H) hI sub k
 refine ⟨F.kind,F.glob,F.blt,F.nl,F₁.own,⟨m,aO hm fun o ho=>⟨o,k _ _ (fun q=>hn (q▸F₁.own)) ho,.refl o⟩,fun x v k kz q=>?_⟩,fun x hk=>?_,F.apart,F₁.nb,F₁.nbc⟩
 ·obtain ⟨mv,e1,e2⟩:=hv x v k kz q
  exact ⟨mv,e1,e2.kept K⟩
 ·obtain ⟨c,ov,h1,h2,⟨oc,hoc,hdc⟩,h4⟩:=F.cell x hk
  obtain ⟨c',ov',h1',h2',_⟩:=F₁.cell x hk
  rw [h1] at h1'; cases h1'
  refine ⟨c,ov,h1,⟨h2.1,h2'.2⟩,⟨oc,k _ _ (fun q=>hn (q▸h2'.2)) hoc,hdc⟩,fun y hy v q=>?_⟩
  obtain ⟨mv,e1,e2⟩:=h4 y hy v q
  exact ⟨mv,e1,e2.kept K⟩
theorem Stp.touch {ρ₀:List Addr} {H₀:List HO} {s₀:Shared} (S:Stp ρ₀ H₀ s₀ ρ H s) (hn:s₀.heap.get? a=none) (k: ∀ b o,b≠a→s.heap.get? b=some o→s'.heap.get? b=some o):Stp ρ₀ H₀ s₀ ρ H s':=
 ⟨⟨fun b o e n=>by
   obtain ⟨o',e',q⟩:=S.kep.keep b o e n
   exact ⟨o',k b o' (fun q=>by rw [q,hn] at e; cases e) e',q⟩,S.kep.live,S.kep.pre⟩⟩
theorem Fra.touch {st₁:St} {ρ₁:List Addr} {s₁:Shared} {γ₁:Gh} (F:Fra γ env st ρ s) (F₁:Fra γ₁ env st₁ ρ₁ s₁) (hI:γ.h a) (hn: ¬ γ₁.h a) (k: ∀ b o,b≠a→s.heap.get? b=some o→s'.heap.get? b=some o):Fra γ env st ρ s':=by
 obtain ⟨m,hm,hv⟩:=F.ns
 have K:=bQ (ρ:=ρ) (H:=st.H) hI k
 refine ⟨F.kind,F.glob,F.blt,F.nl,F.own,⟨m,aO hm fun o ho=>⟨o,k _ _ (fun q=>hn (q▸F₁.own)) ho,.refl o⟩,fun x v k kz q=>?_⟩,fun x hk=>?_,F.apart,F.nb,F.nbc⟩
 ·obtain ⟨mv,e1,e2⟩:=hv x v k kz q
  exact ⟨mv,e1,e2.kept K⟩
 ·obtain ⟨c,ov,h1,h2,⟨oc,hoc,hdc⟩,h4⟩:=F.cell x hk
  obtain ⟨c',ov',h1',h2',_⟩:=F₁.cell x hk
  rw [h1] at h1'; cases h1'
  refine ⟨c,ov,h1,h2,⟨oc,k _ _ (fun q=>hn (q▸h2'.2)) hoc,hdc⟩,fun y hy v q=>?_⟩
  obtain ⟨mv,e1,e2⟩:=h4 y hy v q
  exact ⟨mv,e1,e2.kept K⟩
end
structure GV (C:Cx) (A:Around) (N:Addr→Prop) (ρ:List Addr) (h:Heap) (items:List V) (I:Addr) (fp:List Addr) (P:Nat→Value→Prop) (St:Nat→Heap→Prop):Prop where
 walks:Walks C.prog C.w A I fp [I] items.length P St
 has: ∀ i h,St i h→∃ o,h.get? I=some o∧∀ es n,o.data≠.dict es n
 rel: ∀ i v mv,items[i]?= some v→P i mv→Rel h ρ N v mv
 fp: ∀ b∈fp,b=I∨(¬ Lv ρ [] b∧∃ o,h.get? b=some o∧∀ es n,o.data≠.dict es n)
 size:items.length≤aA
end
noncomputable section
open PySem PyProof.Rows
structure Itr (C:Cx) (A:Around) (L N:Addr→Prop) (ρ:List Addr) (h:Heap) (items:List V) (I:Addr) (fp:List Addr) (P:Nat→Value→Prop) (St:Nat→Heap→Prop):Prop where
 walks:Walks C.prog C.w A I fp [I] items.length P St
 has: ∀ i h,St i h→∃ o,h.get? I=some o∧∀ es n,o.data≠.dict es n
 rel: ∀ i v mv,items[i]?= some v→P i mv→Rel h ρ N v mv
 fp: ∀ b∈fp,b=I∨(¬ L b∧∃ o,h.get? b=some o∧∀ es n,o.data≠.dict es n)
 size:items.length≤aA
noncomputable def Off (γ:Gh) (ρ:List Addr) (H:List HO) (b:Addr):Prop:=Lv ρ H b∨(γ.h b∧¬ γ.b b)
noncomputable def gN (C:Cx) (A:Around) (L N:Addr→Prop) (ρ:List Addr) (s:Shared) (items:List V) (it:Value) (s':Shared):Prop:=
 ∃ I fp P St,it=.ref I∧s.heap.get? I=none∧bP s s'∧St 0 s'.heap∧Itr C A L N ρ s.heap items I fp P St
theorem nt {a b c:Int} (hc:0 < c):Builtin.Range.rangeSize a b c=((b - a+c - 1) / c).toNat:=by
 unfold Builtin.Range.rangeSize
 rw [if_pos hc]
 by_cases h:a < b
 ·rw [if_pos h]
  have e:b - a+c - 1=(b - a - 1)+c*1:=by lia
  rw [e,Int.add_mul_ediv_left _ _ (by lia)]
  have:=Int.ediv_nonneg (a:=b - a - 1) (b:=c) (by lia) (by exact (Int.le_of_lt hc))
  lia
 ·rw [if_neg h]
  have:(b - a+c - 1) / c < 1:=Int.ediv_lt_of_lt_mul hc (by lia)
  lia
theorem qi (a b c:Int):((cB a b c).map V.int).length=((b - a+c - 1) / c).toNat:=by rw [List.length_map,cB,List.length_map,List.length_range]
theorem qh {a b c:Int} (hc:0 < c∧c≤1000000) (ha: -1000000≤a∧a≤1000000) (hb: -1000000≤b∧b≤1000000):Builtin.Range.small a b c=true∧((b - a+c - 1) / c).toNat≤aA:=by
 have hq:(b - a+c - 1) / c≤3000000:=by
  refine Int.ediv_le_of_le_mul hc.1 ?_
  have:3000000*1≤3000000*c:=by lia
  lia
 refine ⟨?_,by unfold aA; lia⟩
 unfold Builtin.Range.small Builtin.Range.rangeFitsLong
 rw [nt hc.1]
 simp only [Bool.and_eq_true,decide_eq_true_eq,Bool.or_eq_true,if_pos hc.1]
 refine ⟨⟨⟨⟨⟨by exact (Int.le_of_lt (Int.lt_of_lt_of_le (show (-2 ^ 63:Int) < -1000000 by decide) ha.1)),by exact (Int.lt_of_le_of_lt ha.2 (show (1000000:Int) < 2 ^ 63 by decide))⟩,by exact (Int.le_of_lt (Int.lt_of_lt_of_le (show (-2 ^ 63:Int) < -1000000 by decide) hb.1)),by exact (Int.lt_of_le_of_lt hb.2 (show (1000000:Int) < 2 ^ 63 by decide))⟩,by exact (Int.le_of_lt (Int.lt_trans (show (-2 ^ 63:Int) < 0 by decide) hc.1)),by exact (Int.lt_of_le_of_lt hc.2 (show (1000000:Int) < 2 ^ 63 by decide))⟩,by lia,by lia⟩,.inr ⟨by lia,by lia⟩⟩
section
variable {C:Cx} {γ:Gh} {ρ:List Addr} {H:List HO} {s:Shared} {A:Around} {E:Value→Shared→Prop}
theorem bO.hok {k:Nat} (r:bO k A γ) (I:Inv C γ ρ H s):HOk A s.heap:=fun v e=>by
 obtain ⟨a,q1,q2⟩:=r.hdl v e
 obtain ⟨⟨o,vs,h1,h2,h3⟩,_⟩:=I.hdl a q2
 exact ⟨a,o,vs,q1,h1,h2,h3⟩
theorem bO.hadr {k:Nat} (r:bO k A γ) {a:Addr} (h:a∈ej A):γ.e a:=by
 unfold ej at h
 cases q:A.handled with
 | none=>rw [q] at h; cases h
 | some v=>
  obtain ⟨b,rfl,q2⟩:=r.hdl v q
  rw [q] at h
  rw [List.mem_singleton.mp h]; exact q2
theorem bO.hnew {k:Nat} (r:bO k A γ) (I:Inv C γ ρ H s) {a:Addr} (ha:s.heap.get? a=none):a ∉ ej A:=fun q=>by
 obtain ⟨⟨o,_,h1,_⟩,_⟩:=I.hdl _ (r.hadr q)
 rw [ha] at h1; cases h1
theorem bO.hfp {k:Nat} (r:bO k A γ) (I:Inv C γ ρ H s) {a:Addr} (q:a∈ej A): ¬ Off γ ρ H a∧∃ o,s.heap.get? a=some o∧∀ es n,o.data≠.dict es n:=by
 obtain ⟨⟨o,vs,h1,h2,_⟩,hl,nh⟩:=I.hdl _ (r.hadr q)
 exact ⟨fun z=>z.elim hl fun z=>nh z.1,o,h1,fun es n q=>by rw [h2] at q; cases q⟩
theorem kZ {k:Nat} {a:Addr} {items:List V} {ms:List Value} (hr:bO k A γ) (J:Inv C γ ρ H s) (ht:s.heap.PlainList a ms.toArray) (hn: ¬ Off γ ρ H a) (hl:items.length≤aA) (r:aR s.heap ρ (Nl γ ρ H) items ms):
  wpAny C.M A (pyIter (.ref a)) (gN C A (Off γ ρ H) (Nl γ ρ H) ρ s items) E s:=by
 have hne:a≠s.heap.objs.size:=fun q=>by obtain ⟨n,ho⟩:=ht; rw [q,aN] at ho; cases ho
 refine wpAny_pyIter_list ht.isList ⟨_,s.heap.objs.size::a::ej A,fun i v=>ms.toArray[i]?= some v,fun i h=>(h.IsListIter s.heap.objs.size a i∧h.IsList a ms.toArray)∧HOk A h,rfl,aN _,bP.push s _ _,⟨⟨⟨_,Heap.get?_push_size _ rfl,rfl,rfl⟩,ht.isList.push _⟩,(hr.hok J).at fun v e _ _ o ho=>Heap.get?_push_of_some _ ho⟩,⟨?_,fun i h q=>?_,fun i v mv e1 e2=>?_,fun b hb=>?_,hl⟩⟩
 ·rw [r.length,show ms.length=ms.toArray.size by simp]; exact walks_list _ a (hr.hnew J (aN _)) hne ms.toArray
 ·obtain ⟨⟨⟨o,ho,_,hd⟩,_⟩,_⟩:=q; exact ⟨o,ho,fun es n q=>by rw [hd] at q; cases q⟩
 ·obtain ⟨m,e3,e4⟩:=r.get e1
  rw [List.getElem?_toArray,e3] at e2; cases e2; exact e4
 ·rcases List.mem_cons.mp hb with q | q
  ·exact .inl q
  ·rcases List.mem_cons.mp q with rfl | q
   ·obtain ⟨n,ho⟩:=ht
    exact .inr ⟨hn,_,ho,fun es n' q=>by cases q⟩
   ·exact .inr (hr.hfp J q)
theorem eK {k:Nat} {v:V} {mv:Value} {items:List V} (hr:bO k A γ) (J:Inv C γ ρ H s) (r:Rel s.heap ρ (Nl γ ρ H) v mv) (e:du v items):wpAny C.M A (pyIter mv) (gN C A (Off γ ρ H) (Nl γ ρ H) ρ s items) E s:=by
 cases e with
 | @rng a b c hc ha hb=>
  obtain ⟨x,t,u,w,rfl,ht,hn⟩:=r.rng_inv
  obtain ⟨h1,h2⟩:=qh hc ha hb
  refine wpAny_pyIter_range ht h1 ⟨_,_,_,_,rfl,aN _,bP.push s _ _,⟨?_,(hr.hok J).at fun v e _ _ o ho=>Heap.get?_push_of_some _ ho⟩,⟨walks_range _ (hr.hnew J (aN _)) a c _,fun i h q=>⟨_,q.1,fun es n q=>by cases q⟩,fun i v mv e1 e2=>?_,fun b hb=>?_,?_⟩⟩
  ·obtain ⟨t,rfl⟩:=e2
   simp only [cB,List.getElem?_map,Option.map_eq_some_iff] at e1
   obtain ⟨x,⟨y,e3,rfl⟩,rfl⟩:=e1
   obtain ⟨h1,rfl⟩:=List.getElem?_eq_some_iff.mp e3
   rw [List.getElem_range,Int.mul_comm]
   exact .int _ _
  ·exact (List.mem_cons.mp hb).imp id fun q=>hr.hfp J q
  ·rw [qi]; exact h2
  ·rw [nt hc.1,qi]
   have:=Heap.get?_push_size s.heap (o:={ cls:=.type "range_iterator",data:=.fields #[rawInt a,rawInt ((b - a+c - 1) / c).toNat,rawInt c]}) rfl
   simpa [IsRangeIter] using this
 | lst vs=>
  obtain ⟨a,ms,rfl,ht,hn,hl,hr'⟩:=r.lst_inv
  exact kZ hr J ht (fun q=>hn (q.imp id fun q=>q.1)) hl hr'
 | str cs=>
  obtain ⟨t,rfl,hl,hc⟩:=r.str_inv
  refine wpAny_pyIter_ascii (x:=sOf cs) (t:=t) (by simpa using hc) ?_
  refine ⟨_,s.heap.objs.size::ej A,SignAt (sOf cs),fun i h=>h.IsStrIter s.heap.objs.size "str_ascii_iterator" (sOf cs) t i∧HOk A h,rfl,aN _,bP.push s _ _,⟨⟨_,Heap.get?_push_size _ rfl,rfl,rfl⟩,(hr.hok J).at fun v e _ _ o ho=>Heap.get?_push_of_some _ ho⟩,⟨?_,fun i h q=>?_,fun i v mv e1 e2=>?_,fun b hb=>?_,by rw [List.length_map]; exact hl⟩⟩
  ·rw [List.length_map,show cs.length=(sOf cs).cps.size by simp]; exact walks_str _ (hr.hnew J (aN _)) _ t
  ·obtain ⟨⟨o,ho,_,hd⟩,_⟩:=q; exact ⟨o,ho,fun es n q=>by rw [hd] at q; cases q⟩
  ·obtain ⟨c,u,e3,rfl⟩:=e2
   rw [List.getElem?_map] at e1
   obtain ⟨c',e4,rfl⟩:=Option.map_eq_some_iff.mp e1
   have e3:cs[i]?= some c:=by simpa using e3
   rw [e3] at e4; cases e4
   exact .str (cs:=[c]) u (show 1≤16777216 by decide) fun x hx=>by rw [List.mem_singleton.mp hx]; exact hc c (List.mem_of_getElem? e3)
  ·exact (List.mem_cons.mp hb).imp id fun q=>hr.hfp J q
noncomputable def om (γ:Gh) (a:Addr):Gh:=⟨fun b=>γ.h b∨b=a,γ.f,fun b q=>.inl (γ.fh b q),γ.e,fun b=>γ.b b∨b=a,fun b q=>q.imp (γ.bh b) id⟩
theorem dc {i:Nat} {a:Addr} (J:Inv C γ ρ H s) (ha:ρ[i]?= some a) (b:Addr) (q:Lv ρ (H.set i .dead) b):Lv ρ H b∧b≠a:=by
 obtain ⟨j,o,h1,h2,h3⟩:=q
 rcases bj h2 with ⟨_,rfl,_⟩ | ⟨ne,h2⟩
 ·cases h3
 ·exact ⟨⟨j,o,h1,h2,h3⟩,fun e=>ne (eM J.nodup ha (e▸h1))⟩
theorem qC {i:Nat} {a:Addr} {vs:List V} (J:Inv C γ ρ H s) (ha:ρ[i]?= some a) (hH:H[i]?= some (.list vs)) (b:Addr):Nl (om γ a) ρ (H.set i .dead) b ↔ Nl γ ρ H b:=by
 constructor
 ·rintro (q | q | q)
  ·exact .inl (dc J ha b q).1
  ·exact .inr q
  ·exact .inl (q▸⟨i,_,ha,hH,rfl⟩)
 ·rintro (q | q)
  ·by_cases e:b=a
   ·exact .inr (.inr e)
   ·obtain ⟨j,o,h1,h2,h3⟩:=q
    refine .inl ⟨j,o,h1,?_,h3⟩
    rw [List.getElem?_set,if_neg fun z=>e (Option.some.inj ((z▸h1).symm.trans ha))]; exact h2
  ·exact .inr (.inl q)
end
end
noncomputable section
open PySem PyProof.Rows
section
variable {C:Cx} {γ γ':Gh} {env:Env} {ρ ρ':List Addr} {st st':St} {s s':Shared} {i:Nat} {a:Addr} {vs:List V}
theorem Inv.lend (J:Inv C γ ρ st.H s) (ha:ρ[i]?= some a) (hH:st.H[i]?= some (.list vs)):Inv C (om γ a) ρ (st.H.set i .dead) s:=by
 have kp:cF s.heap ρ (Nl γ ρ st.H) s.heap ρ (Nl (om γ a) ρ (st.H.set i .dead)):=⟨fun _ o e _=>⟨o,e,.refl o⟩,fun b q=>.inl ((qC J ha hH b).mp q),fun _ _ e=>e⟩
 refine ⟨J.base,by rw [List.length_set]; exact J.len,J.nodup,J.fresh,J.there,fun j b o h1 h2=>?_,fun b hb q=>q.imp (J.apart b hb) id,fun j b o h1 q h2=>?_,fun b q=>?_,fun b q=>?_,J.frm,fun b q=>?_,(fun z=>J.hq (dX hH (fun c=>HO.noConfusion) z)),J.gens,J.os⟩
 ·rcases bj h2 with ⟨_,rfl,_⟩ | ⟨_,h2⟩
  ·trivial
  ·exact (J.obj j b o h1 h2).kept kp fun _ q=>q
 ·rcases bj h2 with ⟨_,rfl,_⟩ | ⟨ne,h2⟩
  ·rfl
  ·rcases q with q | q
   ·exact J.bor j b o h1 q h2
   ·exact absurd (eM J.nodup ha (q▸h1)) ne
 ·rcases q with q | q
  ·exact J.held b q
  ·exact q▸J.there a (List.mem_of_getElem? ha)
 ·rcases q with q | q
  ·exact J.off b q
  ·exact q▸J.fresh a (List.mem_of_getElem? ha)
 ·obtain ⟨x,l,nh⟩:=J.hdl b q
  exact ⟨x,fun z=>l (dc J ha b z).1,fun z=>z.elim nh fun z=>l (z▸⟨i,_,ha,hH,rfl⟩)⟩
theorem Fra.lend (F:Fra γ env st ρ s) (J:Inv C γ ρ st.H s) (ha:ρ[i]?= some a) (hH:st.H[i]?= some (.list vs)):Fra (om γ a) env ⟨st.s,st.H.set i .dead⟩ ρ s:=by
 have na: ¬ γ.h a:=J.live_nh ⟨i,_,ha,hH,rfl⟩
 have kp:cF s.heap ρ (Nl γ ρ st.H) s.heap ρ (Nl (eg γ a) ρ (st.H.set i .dead)):=⟨fun _ o e _=>⟨o,e,.refl o⟩,fun b q=>.inl ((qC J ha hH b).mp q),fun _ _ e=>e⟩
 have X:Fra (eg γ a) env ⟨st.s,st.H.set i .dead⟩ ρ s:=F.kept kp rfl (fun _=>.inl) (fun _ o _ e=>⟨o,e,.refl o⟩) (fun b q z=>J.ghost_nl q (dc J ha b z).1) fun _ q=>q
 exact ⟨X.kind,X.glob,X.blt,X.nl,X.own,X.ns,X.cell,X.apart,fun q=>q.elim F.nb fun q=>na (q▸F.own),fun n c h=>⟨.inl (F.nbc n c h).1,fun q=>q.elim (F.nbc n c h).2 fun q=>na (q▸(F.nbc n c h).1)⟩⟩
theorem mP {H:List HO} (ha:ρ[i]?= some a) (hH:H[i]?= some .dead) (b:Addr):Lv ρ (H.set i (.list vs)) b ↔ Lv ρ H b∨b=a:=by
 constructor
 ·rintro ⟨j,o,h1,h2,h3⟩
  rcases bj h2 with ⟨rfl,_,_⟩ | ⟨_,h2⟩
  ·exact .inr (Option.some.inj (h1.symm.trans ha))
  ·exact .inl ⟨j,o,h1,h2,h3⟩
 ·rintro (⟨j,o,h1,h2,h3⟩ | rfl)
  ·refine ⟨j,o,h1,?_,h3⟩
   rw [List.getElem?_set,if_neg fun e=>?_]
   ·exact h2
   ·subst e; rw [hH] at h2; cases h2; cases h3
  ·refine ⟨i,.list vs,ha,?_,rfl⟩
   rw [List.getElem?_set,if_pos rfl,if_pos (List.getElem?_eq_some_iff.mp hH).1]
theorem iA {H:List HO} (ha:ρ[i]?= some a) (hH:H[i]?= some .dead):cF s.heap ρ (Nl (om γ a) ρ H) s.heap ρ (Nl γ ρ (H.set i (.list vs))):=
 ⟨fun _ o e _=>⟨o,e,.refl o⟩,fun b q=>.inl (by
  rcases q with q | q
  ·exact ((mP ha hH b).mp q).imp id .inr
  ·exact .inr (.inl q)),fun _ _ e=>e⟩
theorem Inv.unlend {H:List HO} (J:Inv C (om γ a) ρ H s) (na: ¬ γ.h a) (ha:ρ[i]?= some a) (hH:H[i]?= some .dead) (r:tj C s.heap ρ (Nl (om γ a) ρ H) (.list vs) a):Inv C γ ρ (H.set i (.list vs)) s:=by
 refine ⟨J.base,by rw [List.length_set]; exact J.len,J.nodup,J.fresh,J.there,fun j b o h1 h2=>?_,fun b hb q=>?_,fun j b o h1 q h2=>?_,fun b q=>J.held b (.inl q),fun b q=>J.off b (.inl q),J.frm,fun b q=>?_,(fun z=>J.hq (dX hH (fun c=>HO.noConfusion) z)),J.gens,J.os⟩
 ·rcases bj h2 with ⟨rfl,rfl,_⟩ | ⟨_,h2⟩
  ·rw [ha] at h1; cases h1
   exact r.kept (iA ha hH) fun _ q=>q
  ·exact (J.obj j b o h1 h2).kept (iA ha hH) fun _ q=>q
 ·exact (J.apart b hb (.inl q)).elim id fun e=>absurd (e▸q) na
 ·rcases bj h2 with ⟨rfl,_,_⟩ | ⟨_,h2⟩
  ·rw [ha] at h1; cases h1; exact absurd (γ.bh _ q) na
  ·exact J.bor j b o h1 (.inl q) h2
 ·obtain ⟨x,l,nh⟩:=J.hdl b q
  exact ⟨x,fun z=>((mP ha hH b).mp z).elim l fun e=>nh (.inr e),fun z=>nh (.inl z)⟩
theorem ef.unlend {Q:V→St→Prop} {mv:Value} (J:Inv C γ ρ st.H s) (ha:ρ[i]?= some a) (hH:st.H[i]?= some (.list vs))
  (p:ef C (om γ a) ρ ⟨st.s,st.H.set i .dead⟩ s (fun v st'=>st'.H[i]?= some .dead∧Q v ⟨st'.s,st'.H.set i (.list vs)⟩) mv s'):ef C γ ρ st s Q mv s':=by
 obtain ⟨v,st',ρ',⟨h0,h1⟩,h2,h3,h4,h5⟩:=p
 have na: ¬ γ.h a:=J.live_nh ⟨i,_,ha,hH,rfl⟩
 obtain ⟨ms,⟨n,hx⟩,hr,hl⟩:=J.obj i _ _ ha hH
 have ha':ρ'[i]?= some a:=h5.kep.pre i a ha
 have lv₀: ¬ Lv ρ (st.H.set i .dead) a:=fun q=>(dc J ha a q).2 rfl
 have K5:cF s.heap ρ (Nl γ ρ st.H) s'.heap ρ' (Nl (om γ a) ρ' st'.H):=⟨fun b o e n=>h5.kep.keep b o e (fun q=>n (.inl (dc J ha b q).1)),fun b q=>by
  rcases q with q | q | q
  ·exact (h5.kep.live b q).imp (fun z=>.inl (dc J ha b z).1) id
  ·exact .inl (.inr q)
  ·exact .inl (.inl (q▸⟨i,_,ha,hH,rfl⟩)),h5.kep.pre⟩
 have r:tj C s'.heap ρ' (Nl (om γ a) ρ' st'.H) (.list vs) a:=⟨ms,⟨n,h5.kep.same hx lv₀ fun es m q=>by cases q⟩,hr.kept K5,hl⟩
 have I':=h4.unlend na ha' h0 r
 have K:=iA (γ:=γ) (vs:=vs) (s:=s') ha' h0
 refine ⟨v,⟨st'.s,st'.H.set i (.list vs)⟩,ρ',h1,h2,h3.kept K,I',⟨⟨fun b o e n=>h5.kep.keep b o e (fun q=>n (dc J ha b q).1),fun b q=>?_,h5.kep.pre⟩⟩⟩
 rcases (mP ha' h0 b).mp q with q | q
 ·exact (h5.kep.live b q).imp (fun z=>(dc J ha b z).1) id
 ·exact .inl (q▸⟨i,_,ha,hH,rfl⟩)
end
end
noncomputable section
open PySem PyProof.Rows
noncomputable def dy (cs sc:Scope):Scope:=
 { cs with names:=cs.names.map fun (n,k)=>if (k == .free && sc.kind == .function && sc.names.lookup n == some .cell) then (n,.cell) else (n,k)}
noncomputable def dp (cs sc:Scope) (x:String):Bool:=
 cs.kind == .function && kd cs x == some .local &&
 cs.names.all fun p=>match p.2 with
  | .local=>cs.names.lookup p.1 == some .local && (p.1 == (x:Str) || p.1 == (".0" :Str))
  | .free=>sc.names.lookup p.1 == some .cell || sc.names.lookup p.1 == some .free
  | .cell=>false
  | _=>true
noncomputable def gq (env:Env):List (Str×NameKind)→List (Str×Addr)→List (Str×Addr)
 | [],acc=>acc
 | (n,k)::r,acc=>gq env r (if k == .free then (n,(env.cells.lookup n).getD 0)::acc else acc)
theorem oZ {cs:Scope} {env:Env} (h: ∀ n,(n,NameKind.free)∈cs.names→∃ c,env.cells.lookup n=some c):closureFor cs env=pure (gq env cs.names []):=by
 have key: ∀ (names:List (Str×NameKind)) (acc:List (Str×Addr)),(∀ n,(n,NameKind.free)∈names→∃ c,env.cells.lookup n=some c)→
   (forIn names acc fun (x:Str×NameKind) (r:List (Str×Addr))=>(match x with
    | (name,kind)=>if kind == NameKind.free then do let c ← cellOf env name; pure (ForInStep.yield ((name,c)::r)) else pure (ForInStep.yield r):Sem (ForInStep (List (Str×Addr)))))=pure (gq env names acc):=by
  intro names
  induction names with
  | nil=>intro acc _; rfl
  | cons p r ih=>
   intro acc h
   obtain ⟨n,k⟩:=p
   rw [List.forIn_cons]
   by_cases hk:k=.free
   ·subst hk
    obtain ⟨c,hc⟩:=h n List.mem_cons_self
    simp only [beq_self_eq_true,if_true,gq,hc,Option.getD_some]
    unfold cellOf
    simp only [hc,pure_bind]
    exact ih _ fun n q=>h n (List.mem_cons_of_mem _ q)
   ·have:(k == NameKind.free)=false:=by simpa using hk
    simp only [this,Bool.false_eq_true,if_false,gq,pure_bind]
    exact ih _ fun n q=>h n (List.mem_cons_of_mem _ q)
 unfold closureFor
 have:=key cs.names [] h
 simp only [bind_pure] at this ⊢
 exact this
theorem eB {env:Env}: ∀ (names:List (Str×NameKind)) (acc:List (Str×Addr)) (n:Str) (c:Addr),(gq env names acc).lookup n=some c→
  (acc.lookup n=some c∨((n,NameKind.free)∈names∧c=(env.cells.lookup n).getD 0))
 | [],acc,n,c,h=>.inl h
 | (m,k)::r,acc,n,c,h=>by
  simp only [gq] at h
  rcases eB r _ n c h with q | ⟨q1,q2⟩
  ·split at q
   ·rename_i hk
    simp only [beq_iff_eq] at hk
    subst hk
    rw [List.lookup_cons] at q
    split at q
    ·rename_i e
     have e:=beq_iff_eq.mp e
     subst e
     cases q
     exact .inr ⟨List.mem_cons_self,rfl⟩
    ·exact .inl q
   ·exact .inl q
  ·exact .inr ⟨List.mem_cons_of_mem _ q1,q2⟩
theorem ln {env:Env}: ∀ (names:List (Str×NameKind)) (acc:List (Str×Addr)) (n:Str),((n,NameKind.free)∈names∨∃ c,acc.lookup n=some c)→∃ c,(gq env names acc).lookup n=some c
 | [],acc,n,h=>by
  rcases h with h | h
  ·cases h
  ·exact h
 | (m,k)::r,acc,n,h=>by
  simp only [gq]
  refine ln r _ n ?_
  rcases h with h | ⟨c,h⟩
  ·rcases List.mem_cons.mp h with e | e
   ·cases e
    right
    simp
   ·exact .inl e
  ·right
   split
   ·by_cases e:n == m
    ·simp [List.lookup_cons,e]
    ·simp only [Bool.not_eq_true] at e
     simp [List.lookup_cons,e,h]
   ·exact ⟨c,h⟩
theorem pd {env:Env} {names:List (Str×NameKind)} {n:Str} {c:Addr} (hf:(n,NameKind.free)∈names) (h:env.cells.lookup n=some c):(gq env names []).lookup n=some c:=by
 obtain ⟨c',h'⟩:=ln (env:=env) names [] n (.inl hf)
 rcases eB names [] n c' h' with q | ⟨_,q⟩
 ·cases q
 ·rw [h',q,h]; rfl
theorem cm {n:Str} {k:NameKind}: ∀ {l:List (Str×NameKind)},l.lookup n=some k→(n,k)∈l
 | [],h=>by cases h
 | (m,j)::r,h=>by
  rw [List.lookup_cons] at h
  split at h
  ·rename_i e
   have:=beq_iff_eq.mp e; subst this
   cases h; exact List.mem_cons_self
  ·exact List.mem_cons_of_mem _ (cm h)
theorem cI {env:Env} {n:Str} {k:NameKind}: ∀ {names:List (Str×NameKind)},
  (names.map fun (n,k)=>if (k == NameKind.free && env.scope.kind == .function && env.kindOf n == some .cell) then (n,NameKind.cell) else (n,k)).lookup n=some k→
  ∃ j,names.lookup n=some j∧(k=j∨(k=.cell∧j=.free))
 | [],h=>by simp at h
 | (m,j)::r,h=>by
  rw [List.map_cons] at h
  by_cases hc:(j == NameKind.free && env.scope.kind == .function && env.kindOf m == some .cell)=true
  ·simp only [hc,if_true,List.lookup_cons] at h ⊢
   split at h
   ·cases h
    simp only [Bool.and_eq_true,beq_iff_eq] at hc
    rename_i e
    exact ⟨j,by simp [e],.inr ⟨rfl,hc.1.1⟩⟩
   ·rename_i e
    obtain ⟨i,q1,q2⟩:=cI h
    exact ⟨i,by simp [e,q1],q2⟩
  ·simp only [hc] at h
   simp only [Bool.false_eq_true,if_false] at h
   rw [List.lookup_cons] at h ⊢
   split at h
   ·cases h
    rename_i e
    exact ⟨k,by simp [e],.inl rfl⟩
   ·rename_i e
    obtain ⟨i,q1,q2⟩:=cI h
    exact ⟨i,by simp [e,q1],q2⟩
section
variable {C:Cx} {γ γ':Gh} {ρ ρ':List Addr} {H H':List HO} {s s':Shared} {st st':St} {env:Env} {a:Addr}
structure cR (cs:Scope) (env:Env) (x:String):Prop where
 kind:cs.kind=.function
 isx:cs.names.lookup (x:Str)=some .local
 loc: ∀ p∈cs.names,p.2=.local→cs.names.lookup p.1=some .local
 only: ∀ p∈cs.names,p.2=.local→p.1=(x:Str)∨p.1=(".0" :Str)
 nocell: ∀ p∈cs.names,p.2≠.cell
 free: ∀ n,(n,NameKind.free)∈cs.names→env.kindOf n=some .cell∨env.kindOf n=some .free
theorem dK {cs:Scope} {env:Env} {x:String} (h:dp cs env.scope x=true):cR cs env x:=by
 simp only [dp,Bool.and_eq_true,beq_iff_eq,List.all_eq_true,kd] at h
 obtain ⟨⟨h1,h2⟩,h3⟩:=h
 refine ⟨h1,h2,fun p hp e=>?_,fun p hp e=>?_,fun p hp e=>?_,fun n hp=>?_⟩
 ·have:=h3 p hp; rw [e] at this; simp at this; exact this.1
 ·have:=h3 p hp; rw [e] at this; simp at this; exact this.2
 ·have:=h3 p hp; rw [e] at this; simp at this
 ·have:=h3 _ hp; simpa [Env.kindOf] using this
theorem cR.closure {cs:Scope} {x:String} (h:cR cs env x) (F:Fra γ env st ρ s):closureFor cs env=pure (gq env cs.names []):=
 oZ fun n hn=>let ⟨c,_,h1,_⟩:=F.cell n (h.free n hn); ⟨c,h1⟩
theorem ta {cs:Scope} {x:String} {Cl:Addr} {m:Str→Option Value} {v:V} {mv:Value} (h:cR cs env x) (F:Fra γ env st ρ s) (hg:γ.h Cl) (nb: ¬ γ.b Cl) (hl: ¬ Lv ρ st.H Cl)
  (hn:s.heap.Ns Cl m) (hm:m x=some mv) (r:Rel s.heap ρ (Nl γ ρ st.H) v mv):Fra γ (compEnvC cs (gq env cs.names []) Cl env) (st.set x v) ρ s:=by
 have kinds: ∀ n k,(compEnvC cs (gq env cs.names []) Cl env).kindOf n=some k→∃ j,cs.names.lookup n=some j∧(k=j∨(k=.cell∧j=.free)):=fun n k q=>cI q
 have cells: ∀ n c,(gq env cs.names []).lookup n=some c→env.cells.lookup n=some c:=fun n c q=>by
  rcases eB cs.names [] n c q with e | ⟨e1,e2⟩
  ·cases e
  ·obtain ⟨c',_,h1,_⟩:=F.cell n (h.free n e1)
   rw [h1] at e2 ⊢; rw [e2]; rfl
 refine ⟨h.kind,F.glob,F.blt,hl,hg,⟨m,hn,fun y w k kz q=>?_⟩,fun n k=>?_,fun n n' c q q'=>F.apart n n' c (cells _ _ q) (cells _ _ q'),nb,fun n c q=>F.nbc n c (cells _ _ q)⟩
 ·obtain ⟨j,e1,e2⟩:=kinds _ _ k
  have hj:j=.local:=by
   rcases e2 with e | ⟨e,_⟩
   ·exact e.symm
   ·cases e
  subst hj
  rcases h.only _ (cm e1) rfl with e | e
  ·have:=fm e
   subst this
   simp only [St.set,if_true,Option.some.injEq] at q
   subst q
   exact ⟨mv,hm,r⟩
  ·exact absurd e kz
 ·have hf:cs.names.lookup n=some .free:=by
   rcases k with k | k
   ·obtain ⟨j,e1,e2⟩:=kinds _ _ k
    rcases e2 with e | ⟨_,e⟩
    ·subst e; exact absurd rfl (h.nocell _ (cm e1))
    ·rw [e] at e1; exact e1
   ·obtain ⟨j,e1,e2⟩:=kinds _ _ k
    rcases e2 with e | ⟨e,_⟩
    ·rw [← e] at e1; exact e1
    ·cases e
  obtain ⟨c,ov,h1,h2,h3,h4⟩:=F.cell n (h.free n (cm hf))
  refine ⟨c,ov,pd (cm hf) h1,h2,h3,fun y hy w q=>h4 y hy w ?_⟩
  have:y≠x:=fun e=>by subst e; have h0:=h.isx; rw [hy,hf] at h0; cases h0
  simpa [St.set,this] using q
end
noncomputable def G3 (γ:Gh) (I D K:Addr):Gh:=⟨fun b=>γ.h b∨b=I∨b=D∨b=K,γ.f,fun b q=>.inl (γ.fh b q),γ.e,γ.b,fun b q=>.inl (γ.bh b q)⟩
noncomputable def G2 (γ:Gh) (D K:Addr):Gh:=⟨fun b=>γ.h b∨b=D∨b=K,γ.f,fun b q=>.inl (γ.fh b q),γ.e,γ.b,fun b q=>.inl (γ.bh b q)⟩
structure jE (C:Cx) (γ':Gh) (env:Env) (ρ₁:List Addr) (st₁:St) (s₁:Shared) (D Cl:Addr) (acc:List V) (ρ:List Addr) (st:St) (s:Shared):Prop where
 inv:Inv C γ' ρ st.H s
 fra:Fra γ' env st ρ s
 ns: ∃ m,s.heap.Ns Cl m
 stp:Stp ρ₁ st₁.H s₁ ρ st.H s
 acc: ∃ ms:List Value,s.heap.PlainList D ms.toArray∧aR s.heap ρ (Nl γ' ρ st.H) acc ms
 same:st.s=st₁.s
theorem qF {γ γ':Gh} {ρ₁ ρ:List Addr} {H₁ H:List HO} {s₁ s:Shared} (S:Stp ρ₁ H₁ s₁ ρ H s) (hs: ∀ b,γ'.h b→γ.h b∨s₁.heap.get? b=none):cF s₁.heap ρ₁ (Nl γ ρ₁ H₁) s.heap ρ (Nl γ' ρ H):=
 ⟨fun a o e n=>S.kep.keep a o e fun q=>n (.inl q),fun a q=>by
  rcases q with q | q
  ·exact (S.kep.live a q).imp .inl id
  ·exact (hs a q).imp .inr id,S.kep.pre⟩
noncomputable def wF (C:Cx) (A:Around) (γ:Gh) (cs:Scope) (env:Env) (x:String) (ifs:List Expr) (elt:Expr) (f:V→St→(List V→St→Prop)→Prop):Prop:=
 ∀ (γ':Gh) (_: ∀ a,γ.f a→γ'.f a) (_: ∀ a,γ.e a→γ'.e a) (Cl:Addr) (s:Shared) (ρ:List Addr) (st:St) (v:V) (Kf:List V→St→Prop) (E:Value→Shared→Prop),Inv C γ' ρ st.H s→Fra γ' (compEnvC cs (gq env cs.names []) Cl env) (st.set x v) ρ s→f v st Kf→
 wpAny C.M A (forIn ifs true fun c r=>if r=true then do let ok ← isTrue c (compEnvC cs (gq env cs.names []) Cl env) (eval c (compEnvC cs (gq env cs.names []) Cl env)); pure (ForInStep.yield ok) else pure (ForInStep.yield r))
  (fun ok s₃=>if ok=true then wpAny C.M A (eval elt (compEnvC cs (gq env cs.names []) Cl env)) (fun y s₄=>∃ r st' ρ',Kf [r] st'∧st'.s=st.s∧Rel s₄.heap ρ' (Nl γ' ρ' st'.H) r y∧Inv C γ' ρ' st'.H s₄∧Stp ρ st.H s ρ' st'.H s₄) E s₃
   else ∃ st' ρ',Kf [] st'∧st'.s=st.s∧Inv C γ' ρ' st'.H s₃∧Stp ρ st.H s ρ' st'.H s₃) E s
section
variable {C:Cx} {γ:Gh} {env:Env} {A:Around} {ρ₁:List Addr} {st₁:St} {s₁:Shared} {ρ:List Addr} {st:St} {s:Shared}
theorem rt {elt iter:Expr} {x:String} {px pos:Pos} {ifs:List Expr} {cs:Scope} {items:List V} {f:V→St→(List V→St→Prop)→Prop} {I D Cl:Addr} {fp:List Addr} {P:Nat→Value→Prop} {St':Nat→Heap→Prop}
  {R:Result→Shared→Prop} {Kf:List V→St→Prop} (hnm:cR cs env x) (T:wF C A γ cs env x ifs elt f) (F₁:Fra γ env st₁ ρ₁ s₁)
  (it:Itr C A (Off γ ρ₁ st₁.H) (Nl γ ρ₁ st₁.H) ρ₁ s₁.heap items I fp P St') (dI:s₁.heap.get? I=none) (dD:s₁.heap.get? D=none) (dC:s₁.heap.get? Cl=none) (nDI:D≠I) (nCI:Cl≠I) (nDC:D≠Cl)
  (gI: ¬ γ.h I) (gD: ¬ γ.h D) (gC: ¬ γ.h Cl) (h0:jE C (G3 γ I D Cl) env ρ₁ st₁ s₁ D Cl [] ρ st s) (hst:St' 0 s.heap) (w:fG f items [] st Kf)
  (fin: ∀ acc ρ st s',jE C (G2 γ D Cl) env ρ₁ st₁ s₁ D Cl acc ρ st s'→acc.length≤aA→Kf acc st→R (.ok .next) s'):
  codeAny C.M A (.compLoop (.ListComp elt [⟨.Name (x:Str) px,iter,ifs,0⟩] cs pos) 0 (.ref I) (.ref D) (compEnvC cs (gq env cs.names []) Cl env)) R s:=by
 have W:=it.walks
 have gs: ∀ b,(G3 γ I D Cl).h b→γ.h b∨s₁.heap.get? b=none:=fun b q=>by
  rcases q with q | rfl | rfl | rfl
  ·exact .inl q
  ·exact .inr dI
  ·exact .inr dD
  ·exact .inr dC
 have offp: ∀ b,s₁.heap.get? b=none→b≠I→b ∉ fp:=fun b hb hne hm=>by
  rcases it.fp b hm with e | ⟨_,o,e,_⟩
  ·exact hne e
  ·rw [hb] at e; cases e
 have stt: ∀ {i:Nat} {b:Addr} {s s':Shared},s₁.heap.get? b=none→b≠I→(∀ x o,x≠b→s.heap.get? x=some o→s'.heap.get? x=some o)→St' i s.heap→St' i s'.heap:=fun hb hne k q=>
  W.frame _ _ _ q fun y hy o e=>k y o (fun e'=>offp _ hb hne (e'▸hy)) e
 have stk: ∀ {i:Nat} {ρ ρ':List Addr} {st st':St} {s s':Shared},Inv C (G3 γ I D Cl) ρ st.H s→Stp ρ₁ st₁.H s₁ ρ st.H s→Stp ρ st.H s ρ' st'.H s'→St' i s.heap→St' i s'.heap:=fun {i ρ ρ' st st' s s'} J S S' q=>by
  refine W.frame _ _ _ q fun y hy o e=>?_
  rcases it.fp y hy with rfl | ⟨hn,o₁,h1,h2⟩
  ·obtain ⟨o',e',hd⟩:=it.has _ _ q
   rw [e] at e'; cases e'
   exact S'.kep.same e (J.ghost_nl (.inr (.inl rfl))) hd
  ·have hl: ¬ Lv ρ₁ st₁.H y:=fun z=>hn (.inl z)
   have e1:=S.kep.same h1 hl h2
   rw [e] at e1; cases e1
   exact S'.kep.same e (S.kep.notLive h1 hl) h2
 refine codeAny_compLoop_tests (fun n s'=>∃ i acc ρ st,n=items.length+1 - i∧i≤items.length∧acc.length≤i∧jE C (G3 γ I D Cl) env ρ₁ st₁ s₁ D Cl acc ρ st s'∧St' i s'.heap∧fG f (items.drop i) acc st Kf) ?_ (items.length+1)
  ⟨0,[],ρ,st,rfl,Nat.zero_le _,Nat.le_refl _,h0,hst,w⟩
 rintro n s' ⟨i,acc,ρ,st,rfl,hi,hacc,J,hst',w⟩
 by_cases hlt:i < items.length
 ·have hdrop:items.drop i=items[i]::items.drop (i+1):=List.drop_eq_getElem_cons hlt
  rw [hdrop] at w
  have w:f items[i] st (fun a st'=>fG f (items.drop (i+1)) (acc++a) st' Kf):=w
  have hv:items[i]?= some items[i]:=List.getElem?_eq_getElem hlt
  generalize items[i]=v at w hv
  refine W.item i _ _ _ hlt hst' fun mv h₁ tk₁ hPv hst₁ hk₁=>?_
  have k1: ∀ b o,b≠I→s'.heap.get? b=some o→h₁.get? b=some o:=fun b o hb e=>hk₁ b o (by simpa using hb) e
  obtain ⟨m,hm⟩:=J.ns
  obtain ⟨ms,hpl,hrl⟩:=J.acc
  refine wpAny_assign_Name (wpAny_storeName_local (lookup_relabel_local hnm.isx) (hm.at' fun o e=>k1 _ o nCI e) (fun h₂ hn₂ hs₂=>?_) (by simp [compEnvC,relabel,hnm.kind]))
  have I1:Inv C (G3 γ I D Cl) ρ st.H ({ s' with heap:=h₁,toks:=tk₁ }:Shared):=J.inv.touch (a:=I) (.inr (.inl rfl)) (fun q=>gI (γ.bh _ q)) (fun q=>(gI (γ.fh _ q)).elim) k1 (let ⟨o,e,_⟩:=it.has _ _ hst₁; ⟨o,e⟩) rfl rfl
  have F1:Fra (G3 γ I D Cl) env st ρ ({ s' with heap:=h₁,toks:=tk₁ }:Shared):=J.fra.touch F₁ (.inr (.inl rfl)) gI k1
  have S1:Stp ρ₁ st₁.H s₁ ρ st.H ({ s' with heap:=h₁,toks:=tk₁ }:Shared):=J.stp.touch dI k1
  have K1:cF s'.heap ρ (Nl (G3 γ I D Cl) ρ st.H) h₁ ρ (Nl (G3 γ I D Cl) ρ st.H):=bQ (s:=s') (s':={ s' with heap:=h₁,toks:=tk₁ }) (a:=I) (.inr (.inl rfl)) k1
  have k2: ∀ b o,b≠Cl→h₁.get? b=some o→h₂.get? b=some o:=fun b o hb e=>hs₂.extBut b o hb e
  generalize hS2:({ ({ s' with heap:=h₁,toks:=tk₁ }:Shared) with heap:=h₂,toks:=tk₁+1 }:Shared)=s2
  have e2:s2.heap=h₂:=by rw [← hS2]
  have I2:Inv C (G3 γ I D Cl) ρ st.H s2:=I1.touch (a:=Cl) (.inr (.inr (.inr rfl))) (fun q=>gC (γ.bh _ q)) (fun q=>(gC (γ.fh _ q)).elim) (by rw [e2]; exact k2) (by rw [e2]; exact cy hn₂) (by rw [← hS2]) (by rw [← hS2])
  have F2:Fra (G3 γ I D Cl) env st ρ s2:=F1.touch F₁ (.inr (.inr (.inr rfl))) gC (by rw [e2]; exact k2)
  have S2:Stp ρ₁ st₁.H s₁ ρ st.H s2:=S1.touch (a:=Cl) dC (by rw [e2]; exact k2)
  have K2:cF h₁ ρ (Nl (G3 γ I D Cl) ρ st.H) s2.heap ρ (Nl (G3 γ I D Cl) ρ st.H):=bQ (s:={ s' with heap:=h₁,toks:=tk₁ }) (s':=s2) (a:=Cl) (.inr (.inr (.inr rfl))) (by rw [e2]; exact k2)
  have hst2:St' (i+1) s2.heap:=stt (s:={ s' with heap:=h₁,toks:=tk₁ }) (s':=s2) dC nCI (by rw [e2]; exact k2) hst₁
  have hpl2:s2.heap.PlainList D ms.toArray:=by rw [e2]; exact (hpl.at fun o e=>k2 _ o nDC (k1 _ o nDI e))
  have hrl2:=(hrl.kept K1).kept K2
  have rv:Rel s2.heap ρ (Nl (G3 γ I D Cl) ρ st.H) v mv:=(it.rel i v mv hv hPv).kept (qF S2 gs)
  have FC:Fra (G3 γ I D Cl) (compEnvC cs (gq env cs.names []) Cl env) (st.set x v) ρ s2:=ta hnm F2 (.inr (.inr (.inr rfl))) (fun q=>gC (γ.bh _ q)) (I2.ghost_nl (.inr (.inr (.inr rfl)))) (by rw [e2]; exact hn₂) (by simp) rv
  refine wpAny_mono (T (G3 γ I D Cl) (fun _ q=>q) (fun _ q=>q) Cl s2 ρ st v _ _ I2 FC w) (fun ok s₃ h₃=>?_) fun _ _ e=>e
  have hnC: ∃ m,s2.heap.Ns Cl m:=⟨_,by rw [e2]; exact hn₂⟩
  cases ok with
  | false=>
   simp only [Bool.false_eq_true,if_false] at h₃ ⊢
   obtain ⟨st',ρ',h1,h2,h3,h4⟩:=h₃
   refine ⟨_,?_,i+1,acc,ρ',st',rfl,hlt,by exact li [_,i] [([1],[2])] [1] [2,0] rfl hacc,⟨h3,F2.step h4 h2,?_,S2.trans h4,⟨ms,?_,?_⟩,h2.trans J.same⟩,stk I2 S2 h4 hst2,by simpa using h1⟩
   ·exact li [_,_,i,_] [([1,3,0],[4,0]),([4,0],[2,3])] [1,0] [2] rfl (l_d (li [i,_] [([1],[2])] [1,0] [2,0] rfl hi)) (l_g _ _)
   ·obtain ⟨m,hm⟩:=hnC
    exact ⟨m,aO hm fun o e=>h4.kep.keep _ o e (I2.ghost_nl (.inr (.inr (.inr rfl))))⟩
   ·obtain ⟨z,hz⟩:=hpl2
    exact ⟨z,h4.kep.same hz (I2.ghost_nl (.inr (.inr (.inl rfl)))) fun es n q=>by cases q⟩
   ·exact hrl2.kept h4.kept
  | true=>
   simp only [if_true] at h₃ ⊢
   refine wpAny_mono h₃ (fun y s₄ h₄=>?_) fun _ _ e=>e
   obtain ⟨r,st',ρ',h1,h2,h3,h4,h5⟩:=h₄
   have hpl4:s₄.heap.PlainList D ms.toArray:=by
    obtain ⟨z,hz⟩:=hpl2
    exact ⟨z,h5.kep.same hz (I2.ghost_nl (.inr (.inr (.inl rfl)))) fun es n q=>by cases q⟩
   have hms:ms.length≤aA:=by rw [← hrl2.length]; have:=it.size; exact li [_,_,i,_] [([3],[4]),([1],[3]),([4],[2])] [1] [2] rfl hi hacc this
   refine wpAny_list_append_plain hpl4 (fun h₅ hl₅ hs₅=>?_) (by rw [ba,List.size_toArray]; exact hms)
   have k5: ∀ b o,b≠D→s₄.heap.get? b=some o→h₅.get? b=some o:=fun b o hb e=>hs₅.extBut b o hb e
   have K5:cF s₄.heap ρ' (Nl (G3 γ I D Cl) ρ' st'.H) h₅ ρ' (Nl (G3 γ I D Cl) ρ' st'.H):=bQ (s:=s₄) (s':={ s₄ with heap:=h₅ }) (a:=D) (.inr (.inr (.inl rfl))) k5
   refine ⟨_,?_,i+1,acc++[r],ρ',st',rfl,hlt,by simp; exact hacc,⟨h4.touch (a:=D) (.inr (.inr (.inl rfl))) (fun q=>gD (γ.bh _ q)) (fun q=>(gD (γ.fh _ q)).elim) k5 (cG hl₅) rfl rfl,(F2.step h5 h2).touch F₁ (.inr (.inr (.inl rfl))) gD k5,?_,
    (S2.trans h5).touch dD k5,⟨ms++[y],by simpa using hl₅,((hrl2.kept h5.kept).kept K5).append (.cons (h3.kept K5) .nil)⟩,h2.trans J.same⟩,stt (s:=s₄) (s':={ s₄ with heap:=h₅ }) dD nDI k5 (stk I2 S2 h5 hst2),h1⟩
   ·exact li [_,_,i,_] [([1,3,0],[4,0]),([4,0],[2,3])] [1,0] [2] rfl (l_d (li [i,_] [([1],[2])] [1,0] [2,0] rfl hi)) (l_g _ _)
   ·obtain ⟨m,hm⟩:=hnC
    exact ⟨m,aO hm fun o e=>by
     obtain ⟨o',e1,e2⟩:=h5.kep.keep _ o e (I2.ghost_nl (.inr (.inr (.inr rfl))))
     exact ⟨o',k5 _ o' (Ne.symm nDC) e1,e2⟩⟩
 ·have hin:i=items.length:=by exact l_a (hi) ((l_t hlt))
  subst hin
  rw [List.drop_length] at w
  have w:Kf acc st:=w
  refine W.done _ _ _ hst' fun h₁ tk₁ hk₁=>?_
  have k1: ∀ b o,b≠I→s'.heap.get? b=some o→h₁.get? b=some o:=fun b o hb e=>hk₁ b o (by simpa using hb) e
  obtain ⟨m,hm⟩:=J.ns
  obtain ⟨ms,hpl,hrl⟩:=J.acc
  have sub: ∀ b,(G2 γ D Cl).h b→(G3 γ I D Cl).h b:=fun b q=>q.imp id .inr
  have nI: ¬ (G2 γ D Cl).h I:=fun q=>by
   rcases q with q | q | q
   ·exact gI q
   ·exact nDI q.symm
   ·exact nCI q.symm
  have F2:Fra (G2 γ D Cl) env st₁ ρ₁ s₁:=⟨F₁.kind,F₁.glob,F₁.blt,F₁.nl,.inl F₁.own,by
   obtain ⟨m,h1,h2⟩:=F₁.ns
   exact ⟨m,h1,fun x v a b c=>let ⟨mv,e1,e2⟩:=h2 x v a b c; ⟨mv,e1,e2.kept ⟨fun _ o e _=>⟨o,e,.refl o⟩,fun a q=>by
    rcases q with q | q | q | q
    ·exact .inl (.inl q)
    ·exact .inl (.inr q)
    ·exact .inr (q▸dD)
    ·exact .inr (q▸dC),fun _ _ e=>e⟩⟩⟩,fun n hk=>by
   obtain ⟨c,ov,h1,h2,h3,h4⟩:=F₁.cell n hk
   exact ⟨c,ov,h1,⟨h2.1,.inl h2.2⟩,h3,fun y hy v q=>let ⟨mv,e1,e2⟩:=h4 y hy v q; ⟨mv,e1,e2.kept ⟨fun _ o e _=>⟨o,e,.refl o⟩,fun a q=>by
    rcases q with q | q | q | q
    ·exact .inl (.inl q)
    ·exact .inl (.inr q)
    ·exact .inr (q▸dD)
    ·exact .inr (q▸dC),fun _ _ e=>e⟩⟩⟩,F₁.apart,F₁.nb,fun n c h=>⟨.inl (F₁.nbc n c h).1,(F₁.nbc n c h).2⟩⟩
  refine fin acc ρ st _ ⟨J.inv.lose (a:=I) (.inr (.inl rfl)) (fun q=>gI (γ.bh _ q)) (fun _=>Iff.rfl) sub (fun _ q=>q) (fun _ q=>q) nI k1 rfl rfl,J.fra.lose F2 (.inr (.inl rfl)) sub nI k1,⟨m,hm.at' fun o e=>k1 _ o nCI e⟩,J.stp.touch dI k1,⟨ms,hpl.at fun o e=>k1 _ o nDI e,hrl.kept ?_⟩,J.same⟩ (by have:=it.size; exact li [_,_,_] [([1],[3]),([3],[2])] [1] [2] rfl hacc this) w
  exact eO (s:=s') (s':={ s' with heap:=h₁,toks:=tk₁ }) (a:=I) (.inr (.inl rfl)) sub k1
end
section
variable {C:Cx} {k:Nat} {γ γ':Gh} {env:Env} {A:Around} {ρ₀:List Addr} {st₀:St} {s₀:Shared} {ρ₁:List Addr} {st₁:St} {s₁:Shared} {ρ:List Addr} {st:St} {s s':Shared} {H:List HO} {E:Value→Shared→Prop}
theorem fC (g:bP s s') (hs: ∀ b,γ'.h b→γ.h b∨s.heap.get? b=none):cF s.heap ρ (Nl γ ρ H) s'.heap ρ (Nl γ' ρ H):=
 ⟨fun _ o e _=>⟨o,g.keep _ _ e,.refl o⟩,fun b q=>by
  rcases q with q | q
  ·exact .inl (.inl q)
  ·exact (hs b q).imp .inr id,fun _ _ e=>e⟩
theorem Inv.holds (I:Inv C γ ρ H s) (g:bP s s') (hs: ∀ b,γ'.h b→γ.h b∨(s.heap.get? b=none∧∃ o,s'.heap.get? b=some o)) (hf: ∀ b,γ'.f b→γ.f b∨∃ o es n,s'.heap.get? b=some o∧o.data=.dict es n) (he: ∀ b,γ'.e b→γ.e b) (hb: ∀ b,γ'.b b ↔ γ.b b):Inv C γ' ρ H s':=
 ⟨fun b o e=>g.keep _ _ (I.base b o e),I.len,I.nodup,I.fresh,fun b e=>let ⟨o,q⟩:=I.there b e; ⟨o,g.keep _ _ q⟩,
  fun i b o e1 e2=>(I.obj i b o e1 e2).kept (fC g fun b q=>(hs b q).imp id And.left) fun x hx=>g.keep _ _ hx,
  (fun b e q=>by
   rcases hs b q with q | ⟨q,_⟩
   ·exact (hb b).mpr (I.apart b e q)
   ·obtain ⟨o,x⟩:=I.there b e; rw [q] at x; cases x),(fun i b o e1 q e2=>I.bor i b o e1 ((hb b).mp q) e2),
  (fun b q=>by
   rcases hs b q with q | ⟨_,q⟩
   ·obtain ⟨o,e⟩:=I.held b q; exact ⟨o,g.keep _ _ e⟩
   ·exact q),
  (fun b q=>by
   rcases hs b q with q | ⟨q,_⟩
   ·exact I.off b q
   ·exact I.none_above q),(fun b q=>by
   rcases hf b q with q1 | q2
   ·obtain ⟨o,es,n,e,d⟩:=I.frm b q1
    exact ⟨o,es,n,g.keep _ _ e,d⟩
   ·exact q2),(fun b q=>by
   obtain ⟨⟨o,vs,e,d⟩,l,nh⟩:=I.hdl b (he b q)
   refine ⟨⟨o,vs,g.keep _ _ e,d⟩,l,fun z=>?_⟩
   rcases hs b z with z | ⟨z,_⟩
   ·exact nh z
   ·rw [e] at z; cases z),(fun z b q=>I.hq z b (he b q)),g.gens.trans I.gens,g.os.trans I.os⟩
theorem Fra.holds (F:Fra γ env st ρ s) (I:Inv C γ ρ st.H s) (g:bP s s') (sub: ∀ b,γ.h b→γ'.h b) (hs: ∀ b,γ'.h b→γ.h b∨s.heap.get? b=none) (hb: ∀ b,γ'.b b→γ.b b):Fra γ' env st ρ s':=
 F.kept (fC g hs) rfl sub (fun _ o _ e=>⟨o,g.keep _ _ e,.refl o⟩) (fun _ q=>I.ghost_nl q) hb
theorem ed {k:Nat} {elt iter:Expr} {x:String} {px pos:Pos} {ifs:List Expr} {cs:Scope} {items:List V} {f:V→St→(List V→St→Prop)→Prop} {Kf:List V→St→Prop} {mi:Value}
  {RR:Value→Addr→Result→Shared→Prop} (hnm:cR cs env x) (T:wF C A γ cs env x ifs elt f) (hr:bO (2*k+1) A γ) (J:Inv C γ ρ st.H s) (F:Fra γ env st ρ s) (hit:wpAny C.M A (pyIter mi) (gN C A (Off γ ρ st.H) (Nl γ ρ st.H) ρ s items) E s)
  (w:fG f items [] st Kf)
  (fin: ∀ D Cl acc ρ' st' s',s.heap.get? D=none→s.heap.get? Cl=none→D≠Cl→¬ γ.h D→¬ γ.h Cl→jE C (G2 γ D Cl) env ρ st s D Cl acc ρ' st' s'→acc.length≤aA→Kf acc st'→RR (.ref D) Cl (.ok .next) s'):
  wpAny C.M A (pyIter mi) (fun it s₂=>wpAny C.M A (newList []) (fun acc s₃=>wpAny C.M A (newFunctionEnv cs env.globals (gq env cs.names []) [] env.qual none .none (some env)) (fun cenv s₄=>
   codeAny C.M A (.compStart (.ListComp elt [⟨.Name (x:Str) px,iter,ifs,0⟩] cs pos) 0 it acc { cenv with scope:=relabel cs env }) (RR acc cenv.locals) s₄) E s₃) E s₂) E s:=by
 refine wpAny_mono hit (fun it s₂ h=>?_) fun _ _ x=>x
 obtain ⟨I,fp,P,St',rfl,dI,g,hst,itr⟩:=h
 have eI: ∃ o,s₂.heap.get? I=some o:=let ⟨o,e,_⟩:=itr.has _ _ hst; ⟨o,e⟩
 refine wpAny_newObj_type (wpAny_newFunctionEnv (fun p hp=>hnm.nocell p hp) (by intro y hy; simp at hy) (fun h₁ hns₁ hsb₁=>?_) hnm.kind)
 dsimp only at hns₁ hsb₁ ⊢
 generalize hH2:s₂.heap.push { cls:=.type "list",dict:=none,data:=.seq ([]:List Value).toArray }=H2 at hns₁ hsb₁ ⊢
 have hC:H2.objs.size=s₂.heap.objs.size+1:=by rw [← hH2,Heap.size_push]
 have hDC:s₂.heap.objs.size≠H2.objs.size:=by rw [hC]; exact Nat.ne_of_lt (Nat.lt_succ_self _)
 have dD2:s₂.heap.get? s₂.heap.objs.size=none:=aN _
 have above: ∀ b,s₂.heap.objs.size≤b→s₂.heap.get? b=none:=fun b hb=>by
  cases e:s₂.heap.get? b with
  | none=>rfl
  | some o'=>exact absurd (Heap.lt_size e) (Nat.not_lt.mpr hb)
 have dC2:s₂.heap.get? H2.objs.size=none:=above _ (by rw [hC]; exact Nat.le_succ _)
 have up: ∀ {b:Addr},s₂.heap.get? b=none→s.heap.get? b=none:=fun {b} hb=>by
  cases e:s.heap.get? b with
  | none=>rfl
  | some o=>rw [g.keep _ _ e] at hb; cases hb
 have old: ∀ b o,s₂.heap.get? b=some o→h₁.get? b=some o:=fun b o e=>by
  have hb:=Heap.lt_size e
  exact hsb₁.extBut b o (by rw [hC]; exact Nat.ne_of_lt (Nat.lt_succ_of_lt hb)) (Heap.get?_push_of_some _ (hH2▸Heap.get?_push_of_some _ e))
 have hacc:h₁.PlainList s₂.heap.objs.size #[]:=⟨_,hsb₁.extBut _ _ hDC (Heap.get?_push_of_some _ (hH2▸Heap.get?_push_size _ rfl))⟩
 have nDI:s₂.heap.objs.size≠I:=fun q=>by obtain ⟨o,e⟩:=eI; rw [← q,dD2] at e; cases e
 have nCI:H2.objs.size≠I:=fun q=>by obtain ⟨o,e⟩:=eI; rw [← q,dC2] at e; cases e
 generalize hs3:({ s₂ with heap:=h₁,toks:=s₂.toks+([]:List (Str×Value)).length }:Shared)=s₃
 have e3:s₃.heap=h₁:=by rw [← hs3]
 have g3:bP s s₃:=g.trans ⟨by rw [e3]; exact old,by rw [← hs3],by rw [← hs3]⟩
 have eI3: ∃ o,s₃.heap.get? I=some o:=let ⟨o,e⟩:=eI; ⟨o,by rw [e3]; exact old _ _ e⟩
 have eD3: ∃ o,s₃.heap.get? s₂.heap.objs.size=some o:=by rw [e3]; exact cG hacc
 have eC3: ∃ o,s₃.heap.get? H2.objs.size=some o:=by rw [e3]; exact cy hns₁
 have hs: ∀ b,(G3 γ I s₂.heap.objs.size H2.objs.size).h b→γ.h b∨(s.heap.get? b=none∧∃ o,s₃.heap.get? b=some o):=fun b q=>by
  rcases q with q | rfl | rfl | rfl
  ·exact .inl q
  ·exact .inr ⟨dI,eI3⟩
  ·exact .inr ⟨up dD2,eD3⟩
  ·exact .inr ⟨up dC2,eC3⟩
 have hst3:St' 0 s₃.heap:=itr.walks.frame _ _ _ hst fun b _ o e=>by rw [e3]; exact old b o e
 have loop:codeAny C.M A (.compLoop (.ListComp elt [⟨.Name (x:Str) px,iter,ifs,0⟩] cs pos) 0 (.ref I) (.ref s₂.heap.objs.size) (compEnvC cs (gq env cs.names []) H2.objs.size env))
   (RR (.ref s₂.heap.objs.size) H2.objs.size) s₃:=by
  refine rt hnm T F itr dI (up dD2) (up dC2) nDI nCI hDC (J.ghost_new dI) (J.ghost_new (up dD2)) (J.ghost_new (up dC2))
   ⟨J.holds g3 hs (fun _ q=>.inl q) (fun _ q=>q) (fun _=>Iff.rfl),F.holds J g3 (fun _=>.inl) (fun b q=>(hs b q).imp id And.left) (fun _ q=>q),⟨_,by rw [e3]; exact hns₁⟩,g3.stp,⟨[],by rw [e3]; exact hacc,.nil⟩,rfl⟩ hst3 w ?_
  intro acc ρ' st' s' h1 h2 h3
  exact fin _ _ acc ρ' st' s' (up dD2) (up dC2) hDC (J.ghost_new (up dD2)) (J.ghost_new (up dC2)) h1 h2 h3
 exact codeAny_compStart_list loop (itr.walks.self 0 _ _ _ hst3 loop)
theorem Inv.adopt {a:Addr} {o:HO} (I:Inv C γ' ρ H s) (ha:γ'.h a) (sub: ∀ b,γ.h b→γ'.h b) (hf: ∀ b,γ.f b→γ'.f b) (he: ∀ b,γ.e b→γ'.e b) (hbb: ∀ b,γ.b b ↔ γ'.b b) (hn: ¬ γ.h a) (nb: ¬ γ.b a) (ho:o.isLive=true)
  (r:cF s.heap ρ (Nl γ' ρ H) s.heap (ρ++[a]) (Nl γ (ρ++[a]) (H++[o]))→tj C s.heap (ρ++[a]) (Nl γ (ρ++[a]) (H++[o])) o a):Inv C γ (ρ++[a]) (H++[o]) s:=by
 have k:cF s.heap ρ (Nl γ' ρ H) s.heap (ρ++[a]) (Nl γ (ρ++[a]) (H++[o])):=
  ⟨fun _ x e _=>⟨x,e,.refl x⟩,fun b q=>by
   rcases q with q | q
   ·rcases fI I.len q with q | q
    ·exact .inl (.inl q)
    ·exact .inl (.inr (q▸ha))
   ·exact .inl (.inr (sub b q)),fun i b e=>by rw [List.getElem?_append_left (List.getElem?_eq_some_iff.mp e).1]; exact e⟩
 refine ⟨I.base,by simp [I.len],?_,?_,?_,?_,?_,?_,fun b q=>I.held b (sub b q),fun b q=>I.off b (sub b q),(fun b q=>I.frm b (hf b q)),(fun b q=>let ⟨x,l,nh⟩:=I.hdl b (he b q); ⟨x,fun z=>(fI I.len z).elim l fun z=>nh (z▸ha),fun z=>nh (sub b z)⟩),(fun z b q=>I.hq (hW z) b (he b q)),I.gens,I.os⟩
 ·refine List.nodup_append.mpr ⟨I.nodup,by simp,fun x hx y hy q=>?_⟩
  simp at hy; subst hy; subst q
  exact nb ((hbb _).mpr (I.apart _ hx ha))
 ·intro b hb
  rcases List.mem_append.mp hb with h | h
  ·exact I.fresh b h
  ·simp at h; subst h; exact I.off _ ha
 ·intro b hb
  rcases List.mem_append.mp hb with h | h
  ·exact I.there b h
  ·simp at h; subst h; exact I.held _ ha
 ·intro i b x e1 e2
  rcases Nat.lt_trichotomy i ρ.length with h | h | h
  ·rw [List.getElem?_append_left h] at e1
   rw [List.getElem?_append_left (I.len▸h)] at e2
   exact (I.obj i b x e1 e2).kept k fun y hy=>hy
  ·subst h
   rw [List.getElem?_append_right (Nat.le_refl _)] at e1
   rw [I.len,List.getElem?_append_right (Nat.le_refl _)] at e2
   simp at e1 e2
   subst e1; subst e2
   exact r k
  ·have:(ρ++[a])[i]?= none:=List.getElem?_eq_none (by rw [List.length_append,List.length_singleton]; exact h)
   rw [this] at e1; cases e1
 ·intro b hb q
  rcases List.mem_append.mp hb with h | h
  ·exact (hbb b).mpr (I.apart b h (sub b q))
  ·simp at h; subst h; exact absurd q hn
 ·intro i b x e1 q e2
  rcases Nat.lt_trichotomy i ρ.length with h | h | h
  ·rw [List.getElem?_append_left h] at e1
   rw [List.getElem?_append_left (I.len▸h)] at e2
   exact I.bor i b x e1 ((hbb b).mp q) e2
  ·subst h
   rw [List.getElem?_append_right (Nat.le_refl _),Nat.sub_self] at e1
   cases e1; exact absurd q nb
  ·rw [List.getElem?_eq_none (by rw [List.length_append,List.length_singleton]; exact h)] at e1; cases e1
theorem kt {D Cl:Addr} {acc:List V} {Q:V→St→Prop} {h':Heap} (F₁:Fra γ env st₁ ρ₁ s₁) (dD:s₁.heap.get? D=none) (dC:s₁.heap.get? Cl=none) (nDC:D≠Cl) (gD: ¬ γ.h D) (gC: ¬ γ.h Cl)
  (J:jE C (G2 γ D Cl) env ρ₁ st₁ s₁ D Cl acc ρ st s) (hl:acc.length≤aA) (w:kS acc st Q) (hs:Heap.SameBut Cl s.heap h'):
  ef C γ ρ₁ st₁ s₁ Q (.ref D) { s with heap:=h' }:=by
 have k1: ∀ b o,b≠Cl→s.heap.get? b=some o→h'.get? b=some o:=fun b o hb e=>hs.extBut b o hb e
 obtain ⟨ms,hpl,hrl⟩:=J.acc
 have sub: ∀ b,(eg γ D).h b→(G2 γ D Cl).h b:=fun b q=>q.imp id .inl
 have nC: ¬ (eg γ D).h Cl:=fun q=>q.elim gC fun q=>nDC q.symm
 have I1:Inv C (eg γ D) ρ st.H ({ s with heap:=h' }:Shared):=J.inv.lose (a:=Cl) (.inr (.inr rfl)) (fun q=>gC (γ.bh _ q)) (fun _=>Iff.rfl) sub (fun _ q=>q) (fun _ q=>q) nC k1 rfl rfl
 have K1:cF s.heap ρ (Nl (G2 γ D Cl) ρ st.H) h' ρ (Nl (eg γ D) ρ st.H):=eO (s:=s) (s':={ s with heap:=h' }) (a:=Cl) (.inr (.inr rfl)) sub k1
 have S1:Stp ρ₁ st₁.H s₁ ρ st.H ({ s with heap:=h' }:Shared):=J.stp.touch dC k1
 have hpl1:h'.PlainList D ms.toArray:=hpl.at fun o e=>k1 _ o nDC e
 have hrl1:=hrl.kept K1
 have nl: ¬ Nl γ ρ st.H D:=fun q=>q.elim (I1.ghost_nl (.inr rfl)) gD
 rcases w with w | w
 ·have I2:Inv C γ ρ st.H ({ s with heap:=h' }:Shared):=I1.drop (fun _=>.inl) (fun _ q=>q) (fun _ q=>q) (fun _=>Iff.rfl)
  exact ⟨_,st,ρ,w,J.same,.lst hpl1 nl hl (hrl1.kept (dF (γ:=γ) (γ':=eg γ D) (s:={ s with heap:=h' }) fun _=>.inl)),I2,S1⟩
 ·refine ⟨_,_,ρ++[D],w,J.same,.loc (by rw [← I1.len]; simp),I1.adopt (.inr rfl) (fun _=>.inl) (fun _ q=>q) (fun _ q=>q) (fun _=>Iff.rfl) gD (fun q=>gD (γ.bh _ q)) rfl fun kp=>⟨ms,hpl1,hrl1.kept kp,hl⟩,⟨⟨S1.kep.keep,fun b q=>?_,fun i b e=>?_⟩⟩⟩
  ·rcases fI I1.len q with q | q
   ·exact S1.kep.live b q
   ·exact .inr (q▸dD)
  ·have:=S1.kep.pre i b e
   rw [List.getElem?_append_left (List.getElem?_eq_some_iff.mp this).1]; exact this
end
section
variable {C:Cx} {k:Nat} {γ:Gh} {env:Env} {A:Around}
theorem eE {ρ:List Addr} {st:St} {s:Shared} {ev:Value} {s':Shared} {E:Value→Shared→Prop} (p:bt C γ ρ st s (fun _ _=>False) ev s'):E ev s':=by
 obtain ⟨_,_,_,h,_⟩:=p; exact h.elim
noncomputable def DJ (Φ:Orc) (G:String→Option V) (elt:E) (x:String):V→St→(List V→St→Prop)→Prop:=
 fun v st₁ K=>wE Φ G elt (st₁.set x v) (fun r st'=>K [r] ⟨st₁.s,st'.H⟩) fun _ _=>False
noncomputable def wj (Φ:Orc) (G:String→Option V) (elt:E) (x:String) (c:E):V→St→(List V→St→Prop)→Prop:=
 fun v st₁ K=>wE Φ G c (st₁.set x v) (fun b st'=>(b=.bool true∧wE Φ G elt st' (fun r st'=>K [r] ⟨st₁.s,st'.H⟩) fun _ _=>False)∨(b=.bool false∧K [] ⟨st₁.s,st'.H⟩)) fun _ _=>False
theorem gU {elt:E} {x:String} {cs:Scope} {pelt:Expr} (he:SE C k (dy cs env.scope) elt pelt) (hr:bO (2*k+1) A γ):wF C A γ cs env x [] pelt (DJ (Calls C k) C.glo elt x):=by
 intro γ' hf hfe Cl s ρ st v Kf E I F w
 show wpAny C.M A (pure true) _ _ s
 refine wpAny_pure ?_
 rw [if_pos rfl]
 refine wpAny_mono (he (compEnvC cs (gq env cs.names []) Cl env) A s γ' ρ (st.set x v) _ _ rfl (hr.more hf hfe) I F w) (fun y s₄ p=>?_) fun _ _ p=>eE p
 obtain ⟨r,st',ρ',h1,h2,h3,h4,h5⟩:=p
 exact ⟨r,⟨st.s,st'.H⟩,ρ',h1,rfl,h3,h4,h5⟩
theorem gS {elt c:E} {x:String} {cs:Scope} {pelt pc:Expr} (he:SE C k (dy cs env.scope) elt pelt) (hc:ST C k (dy cs env.scope) c pc) (hr:bO (2*k+1) A γ):
  wF C A γ cs env x [pc] pelt (wj (Calls C k) C.glo elt x c):=by
 intro γ' hf hfe Cl s ρ st v Kf E I F w
 rw [List.forIn_cons]
 simp only [if_true]
 have w':wT (Calls C k) C.glo c (st.set x v) (fun b st'=>(b=true∧wE (Calls C k) C.glo elt st' (fun r st'=>Kf [r] ⟨st.s,st'.H⟩) fun _ _=>False)∨(b=false∧Kf [] ⟨st.s,st'.H⟩)) (fun _ _=>False):=by
  have e:(fun (b:V) (st':St)=>(b=.bool true∧wE (Calls C k) C.glo elt st' (fun r st'=>Kf [r] ⟨st.s,st'.H⟩) fun _ _=>False)∨(b=.bool false∧Kf [] ⟨st.s,st'.H⟩))=
    fun v st'=>∃ b,v=.bool b∧((b=true∧wE (Calls C k) C.glo elt st' (fun r st'=>Kf [r] ⟨st.s,st'.H⟩) fun _ _=>False)∨(b=false∧Kf [] ⟨st.s,st'.H⟩)):=by
   funext v st'
   refine propext ⟨?_,?_⟩
   ·rintro (⟨rfl,h⟩ | ⟨rfl,h⟩)
    ·exact ⟨true,rfl,.inl ⟨rfl,h⟩⟩
    ·exact ⟨false,rfl,.inr ⟨rfl,h⟩⟩
   ·rintro ⟨b,rfl,⟨rfl,h⟩ | ⟨rfl,h⟩⟩
    ·exact .inl ⟨rfl,h⟩
    ·exact .inr ⟨rfl,h⟩
  show wE _ _ _ _ _ _
  rw [← e]; exact w
 refine wpAny_bind (wpAny_bind (wpAny_mono (hc (compEnvC cs (gq env cs.names []) Cl env) A s γ' ρ (st.set x v) _ _ rfl (hr.more hf hfe) I F w') (fun ok s₃ p=>wpAny_pure ?_) fun _ _ p=>eE p))
 show wpAny C.M A (pure ok) _ _ s₃
 refine wpAny_pure ?_
 obtain ⟨st',ρ',h1,h2,h4,h5⟩:=p
 rcases h1 with ⟨rfl,h1⟩ | ⟨rfl,h1⟩
 ·rw [if_pos rfl]
  refine wpAny_mono (he (compEnvC cs (gq env cs.names []) Cl env) A s₃ γ' ρ' st' _ _ rfl (hr.more hf hfe) h4 (F.step h5 h2) h1) (fun y s₄ p=>?_) fun _ _ p=>eE p
  obtain ⟨r,st'',ρ'',g1,g2,g3,g4,g5⟩:=p
  exact ⟨r,⟨st.s,st''.H⟩,ρ'',g1,rfl,g3,g4,h5.trans g5⟩
 ·exact ⟨⟨st.s,st'.H⟩,ρ',h1,rfl,h4,h5⟩
theorem de {pe:Expr} {env:Env} (h:bE pe=false) (x:Value):foldedSetIterable pe env x=pure x:=by
 cases pe<;>first | rfl | cases h
theorem nk {it:E} {pelt pit:Expr} {x:String} {px pos:Pos} {ifs:List Expr} {cs:Scope} {f:V→St→(List V→St→Prop)→Prop} {s:Shared} {ρ:List Addr} {st:St} {Q:V→St→Prop} {X:String→St→Prop}
  (hi:SE C k env.scope it pit) (hco:dp cs env.scope x=true) (hset:bE pit=false) (T:wF C A γ cs env x ifs pelt f) (hr:bO (2*k+1) A γ) (I:Inv C γ ρ st.H s) (F:Fra γ env st ρ s)
  (w:wE (Calls C k) C.glo it st (fun vi st=>∃ items,du vi items∧fG f items [] st fun out st=>kS out st Q) X):
  wpAny C.M A (eval (.ListComp pelt [⟨.Name (x:Str) px,pit,ifs,0⟩] cs pos) env) (ef C γ ρ st s Q) (bt C γ ρ st s X) s:=by
 have hnm:=dK hco
 rw [eval_ListComp]
 refine wpAny_comprehension_free (use:=none) rfl (fun v=>de hset v) (hnm.closure F) hnm.kind (fun p hp h=>hnm.loc p hp h)
  (hi.at rfl hr (At.start I F) w fun mi s₁ vi st₁ ρ₁ w₁ r₁ a₁ S₁=>?_)
 obtain ⟨items,e,w₁⟩:=w₁
 refine ed (RR:=fun acc C'=>compPost C.M A (bt C γ ρ st s X) none (ef C γ ρ st s Q) acc C') hnm T hr a₁.inv a₁.fra (eK hr a₁.inv r₁ e) w₁ ?_
 intro D Cl acc ρ' st' s' dD dC nDC gD gC J hl w'
 obtain ⟨m,hm⟩:=J.ns
 exact ⟨m,hm,fun h' hs=>a₁.thenPost (kt a₁.fra dD dC nDC gD gC J hl w' hs)⟩
theorem uM {sc:Scope} {elt it:E} {x:String} {pelt pit:Expr} {px pos:Pos} {cs:Scope} (hco:dp cs sc x=true) (hset:bE pit=false) (he:SE C k (dy cs sc) elt pelt) (hi:SE C k sc it pit):SE C k sc (.comp elt x it) (.ListComp pelt [⟨.Name (x:Str) px,pit,[],0⟩] cs pos):=by
 rintro env A s γ ρ st Q X rfl hr I F w
 exact nk hi hco hset (gU he hr) hr I F w
theorem sA {sc:Scope} {elt it:E} {x:String} {pelt pit:Expr} {px pos:Pos} {cs:Scope} (hco:dp cs sc x=true) (hset:bE pit=false) (he:SE C k (dy cs sc) elt pelt) (hi:SE C k sc it pit):SE C k sc (.compX elt x it) (.ListComp pelt [⟨.Name (x:Str) px,pit,[],0⟩] cs pos):=by
 rintro env A s γ ρ st Q X rfl hr I F w
 have hnm:=dK hco
 have T:=gU (A:=A) (γ:=γ) (env:=env) (x:=x) (cs:=cs) he hr
 rw [eval_ListComp]
 refine wpAny_comprehension_free (use:=none) rfl (fun v=>de hset v) (hnm.closure F) hnm.kind (fun p hp h=>hnm.loc p hp h)
  (hi.at rfl hr (At.start I F) w fun mi s₁ vi st₁ ρ₁ w₁ r₁ a₁ S₁=>?_)
 rcases w₁ with ⟨items,e,w₁⟩ | ⟨i,items,rfl,hH,w₁⟩
 ·refine ed (RR:=fun acc C'=>compPost C.M A (bt C γ ρ st s X) none (ef C γ ρ st s Q) acc C') hnm T hr a₁.inv a₁.fra (eK hr a₁.inv r₁ e) w₁ ?_
  intro D Cl acc ρ' st' s' dD dC nDC gD gC J hl w'
  obtain ⟨m,hm⟩:=J.ns
  exact ⟨m,hm,fun h' hs=>a₁.thenPost (kt a₁.fra dD dC nDC gD gC J hl w' hs)⟩
 ·obtain ⟨a,rfl,ha⟩:=r₁.loc_inv
  have I₁:=a₁.inv
  have F₁:=a₁.fra
  obtain ⟨ms,hpl,hrl,hlen⟩:=I₁.obj i _ _ ha hH
  have kp:cF s₁.heap ρ₁ (Nl γ ρ₁ st₁.H) s₁.heap ρ₁ (Nl (om γ a) ρ₁ (st₁.H.set i .dead)):=⟨fun _ o e _=>⟨o,e,.refl o⟩,fun b q=>.inl ((qC I₁ ha hH b).mp q),fun _ _ e=>e⟩
  have hr':bO (2*k+1) A (om γ a):=hr.more (fun _ q=>q) fun _ q=>q
  refine ed (st:=⟨st₁.s,st₁.H.set i .dead⟩) (γ:=om γ a) (RR:=fun acc C'=>compPost C.M A (bt C γ ρ st s X) none (ef C γ ρ st s Q) acc C') hnm T hr' (I₁.lend ha hH) (F₁.lend I₁ ha hH)
   (kZ (H:=st₁.H.set i .dead) (γ:=om γ a) hr' (I₁.lend ha hH) hpl (fun q=>q.elim (fun q=>(dc I₁ ha a q).2 rfl) fun q=>q.2 (.inr rfl)) hlen (hrl.kept kp)) w₁ ?_
  intro D Cl acc ρ' st' s' dD dC nDC gD gC J hl w'
  obtain ⟨m,hm⟩:=J.ns
  exact ⟨m,hm,fun h' hs=>a₁.thenPost ((kt (F₁.lend I₁ ha hH) dD dC nDC gD gC J hl w' hs).unlend I₁ ha hH)⟩
theorem kK {sc:Scope} {elt it c:E} {x:String} {pelt pit pc:Expr} {px pos:Pos} {cs:Scope} (hco:dp cs sc x=true) (hset:bE pit=false) (he:SE C k (dy cs sc) elt pelt) (hi:SE C k sc it pit) (hc:ST C k (dy cs sc) c pc):SE C k sc (.compIf elt x it c) (.ListComp pelt [⟨.Name (x:Str) px,pit,[pc],0⟩] cs pos):=by
 rintro env A s γ ρ st Q X rfl hr I F w
 exact nk hi hco hset (gS he hc hr) hr I F w
end
end
noncomputable section
open PySem PyProof.Rows PySem.W
section
variable {γ:Gh} {C:Cx} {k:Nat} {sc:Scope} {env:Env} {A:Around} {ρ₀:List Addr} {st₀:St} {s₀:Shared} {ρ ρ':List Addr} {H H':List HO} {st:St} {s s':Shared} {X:String→St→Prop}
theorem nS {α:Type} {l:List α} {n i:Nat} {a:α} (h:(l.take n)[i]?= some a):l[i]?= some a:=by
 rw [List.getElem?_take] at h
 split at h
 ·exact h
 ·cases h
theorem dl {n:Nat} {a:Addr} (h:Lv (ρ.take n) (H.take n) a):Lv ρ H a:=by
 obtain ⟨i,o,h1,h2,h3⟩:=h
 rw [List.getElem?_take] at h1 h2
 split at h1
 ·rename_i hi
  rw [if_pos hi] at h2
  exact ⟨i,o,h1,h2,h3⟩
 ·cases h1
theorem Inv.cut {n:Nat} (I:Inv C γ ρ H s) (hz:ar (H.take n)→∀ a,¬ γ.e a) (hl: ∀ (i:Nat) o,i < n→H[i]?= some o→lowO n o):Inv C γ (ρ.take n) (H.take n) s:=by
 refine ⟨I.base,by simp [I.len],I.nodup.sublist (List.take_sublist n ρ),fun a h=>I.fresh a (List.mem_of_mem_take h),fun a h=>I.there a (List.mem_of_mem_take h),fun i a o h1 h2=>?_,fun a h=>I.apart a (List.mem_of_mem_take h),fun i a o h1 q h2=>I.bor i a o (nS h1) q (nS h2),I.held,I.off,I.frm,(fun b q=>let ⟨x,l,nh⟩:=I.hdl b q; ⟨x,fun z=>l (dl z),nh⟩),hz,I.gens,I.os⟩
 rw [List.getElem?_take] at h1 h2
 split at h1
 ·rename_i hi
  rw [if_pos hi] at h2
  have:=I.obj i a o h1 h2
  have hlo:=hl i o hi h2
  have cN: ∀ a,Nl γ (ρ.take n) (H.take n) a→Nl γ ρ H a:=fun a q=>q.imp dl id
  cases o with
  | list vs=>
   obtain ⟨ms,q1,q2,q3⟩:=this
   exact ⟨ms,q1,q2.cut cN hlo,q3⟩
  | inst _=>exact this
  | obj j=>
   obtain ⟨q0,d,q1,q2⟩:=this
   exact ⟨q0,d,by rw [List.getElem?_take,if_pos (show j < n from hlo)]; exact q1,q2⟩
  | attrs fs=>
   obtain ⟨es,m,q1,q2⟩:=this
   exact ⟨es,m,q1,q2.cut cN hlo⟩
  | dictS kvs=>
   obtain ⟨ms,q1,q2,q3⟩:=this
   exact ⟨ms,q1,q2.cut cN hlo,q3⟩
  | dead=>trivial
 ·cases h1
theorem Inv.lowO (I:Inv C γ ρ H s) {i:Nat} {o:HO} (h:H[i]?= some o):Mine.lowO H.length o:=by
 have hi:i < ρ.length:=by rw [I.len]; exact (List.getElem?_eq_some_iff.mp h).1
 have:=I.obj i _ o (List.getElem?_eq_getElem hi) h
 rw [← I.len]
 cases o with
 | list vs=>obtain ⟨ms,q1,q2,q3⟩:=this; exact q2.lows
 | inst _=>trivial
 | obj j=>obtain ⟨_,d,q1,_⟩:=this; exact (List.getElem?_eq_some_iff.mp q1).1
 | attrs fs=>obtain ⟨es,m,q1,q2⟩:=this; exact q2.lows
 | dictS kvs=>obtain ⟨ms,q1,q2,q3⟩:=this; exact q2.lows
 | dead=>trivial
theorem Stp.cut {n:Nat} (S:Stp ρ H s ρ' H' s') (hn:ρ.length≤n):Stp ρ H s (ρ'.take n) (H'.take n) s':=
 ⟨⟨S.kep.keep,fun a q=>S.kep.live a (dl q),fun i a e=>by
  rw [List.getElem?_take,if_pos (by have:=(List.getElem?_eq_some_iff.mp e).1; exact li [i,n,_] [([3],[2]),([1,0],[3])] [1,0] [2] rfl hn this)]; exact S.kep.pre i a e⟩⟩
theorem nA {v:V} {m:Value} {j:Nat} {fs:List (String×V)} (I:Inv C γ ρ H s) (r:Rel s.heap ρ (Nl γ ρ H) v m) (h:eF H v j fs):
  wI C.base C.mg C.K C.cls C.meths C.ats C.fa∧∃ x d es n,m=.ref x∧(ρ[j]?= some d∧H[j]?= some (.attrs fs))∧s.heap.get? d=some (dictOf es n)∧iT s.heap ρ (Nl γ ρ H) fs es∧InstAt s.heap x (instObj C.cls d) C.cls (some (dictOf es n)):=by
 cases h with
 | mk h1 h2=>
  obtain ⟨x,rfl,hx⟩:=r.loc_inv
  obtain ⟨hm,d,hd,ho⟩:=I.obj _ x _ hx h1
  obtain ⟨es,n,g1,g2⟩:=I.obj _ d _ hd h2
  exact ⟨C.hcls hm,x,d,es,n,rfl,⟨hd,h2⟩,g1,g2,⟨ho,rfl,rfl,g1⟩⟩
theorem Inv.frag (I:Inv C γ ρ H s) {K:Frag} (h:K.In C.base):K.In s.heap:=fun a o q=>I.base a o (h a o q)
theorem uK {a:E} {pa:Expr} {p p' q:Pos} (hm:C.meths≠[]) (hk:cf sc "isinstance" =true) (hk':cf sc "Store" =true) (hh:bq pa=true) (ha:SE C k sc a pa):SE C k sc (.isiS a) (.Call (.Name ("isinstance" :String) p) [pa,.Name (("Store" :String):Str) p'] [] q):=fun env A s γ ρ st Q X hs hr I F w=>
 tH hk hh rfl ha hs hr I F w (fun I F h=>gA I F (C.hcls hm).glo (hs▸hk') h) fun mv s' v st' ρ' w' r' a'=>by
  obtain ⟨j,fs,o,hQ⟩:=w'
  obtain ⟨cl,x,d,es,n,rfl,_,g1,g2,inst⟩:=nA a'.inv r' o
  have e:=cl.isi
  simp only [mr,Bool.and_eq_true,beq_iff_eq] at e
  obtain ⟨⟨⟨⟨⟨⟨e1,e2⟩,e3⟩,e4⟩,e5⟩,e6⟩,e7⟩:=e
  exact ⟨true,hQ,kia_one (kitx_own e1 e2 e3 e4 e5 e6) (a'.inv.frag cl.inn) inst e7 (fun z=>by cases z) fun tk=>⟨.bool _,tk,rfl⟩⟩
theorem zA {h:Heap} {N:Addr→Prop} {v:V} {m:Value} (r:Rel h ρ N v m):handedIn m=true:=by cases r<;>rfl
theorem uQ {a:E} {x:String} {pa:Expr} {p:Pos} (hh:bq pa=true) (hx:x∈C.ats) (ha:SE C k sc a pa):SE C k sc (.attr a x) (.Attribute pa (x:Str) p):=fun env A s γ ρ st Q X hs hr I F w=>by
 rw [arm_eval_Attribute,mO hh]
 refine wpAny_bind (ha.at hs hr (At.start I F) w fun ma s₁ va st₁ ρ₁ w₁ r₁ a₁ S₁=>?_)
 obtain ⟨j,fs,u,ho,hl,hQ⟩:=w₁
 obtain ⟨cl,x',d,es,n,rfl,hd,g1,g2,inst⟩:=nA a₁.inv r₁ ho
 have g:=g2.get x
 rw [hl] at g
 obtain ⟨mv,g3,g4⟩:=g
 refine wpAny_bind (wpAny_standAt (wpAny_bind (wpAny_holding (get_value (a₁.inv.frag cl.inn) inst cl.get.1 (findObj_own cl.hasD (cl.attr x hx) rfl g3) (zA g4) ?_))))
 exact wpAny_bind (wpAny_letTemporaryGo (wpAny_pure ((a₁.grew (bP.toks _ _)).post hQ g4)))
theorem wk {f:String} {fa:Addr} {vs:List V} {ms:List Value} {W:Prop} {Q:V→St→Prop} (hr:bO (2*k) A γ) (hfa:C.fa f=some fa) (a:At C γ env ρ₀ st₀ s₀ ρ st s) (r:aR s.heap ρ (Nl γ ρ st.H) vs ms)
  (w:(∃ v H',Calls C k f vs st.H (.ok v) H'∧Q v ⟨st.s,H'⟩)∨∃ c H',Calls C k f vs st.H (.err c) H'∧X c ⟨st.s,H'⟩):wpAny C.M A (call (.ref fa) ms) (ef C γ ρ₀ st₀ s₀ Q) (bt C γ ρ₀ st₀ s₀ X) s:=by
 rcases w with ⟨v,H',hc,hQ⟩ | ⟨c,H',hc,hX⟩
 ·refine wpAny_call (codeAny_mono (hc A s γ ρ ms fa hr a.inv r hfa) fun res s' p=>?_)
  cases res with
  | error e=>exact p.elim
  | ok fl=>
   cases fl<;>first | exact p.elim | skip
   obtain ⟨ρ',p1,p2,p3⟩:=p
   exact ⟨v,_,ρ',hQ,a.same,p1,p2,a.stp.trans p3⟩
 ·refine wpAny_call (codeAny_mono (hc A s γ ρ ms fa hr a.inv r hfa) fun res s' p=>?_)
  cases res with
  | ok fl=>cases fl<;>exact p.elim
  | error e=>
   obtain ⟨ρ',p1,p2,p3⟩:=p
   exact ⟨c,_,ρ',hX,a.same,p1.back (a.stp.back a.inv),p2,a.stp.trans p3⟩
theorem sy {f m:String} {a:E} {es:Es} {pa:Expr} {pes:List Expr} {ap p:Pos} (hm:(m,f)∈C.meths) (hh:bq pa=true) (hlt:pes.length < 20) (hline:ap.endLine=p.line) (ha:SE C k sc a pa) (hes:SEs C k sc es pes):
  SE C k sc (.mcall f m a es) (.Call (.Attribute pa (m:Str) ap) pes [] p):=fun env A s γ ρ st Q X hs hr I F w=>by
 have star:=cV (env:=env) (pos:=p) hes.1
 have few:((backTo p (starEach pes env)).all (fun x=>!x.1) && (backToKw p (keywordEach [] env)).all (fun x=>x.1.isSome) && decide (pes.length+([]:List Keyword).length+(if ([]:List Keyword).isEmpty then 0 else 1) < 30))=true:=by
  simp only [Bool.and_eq_true,decide_eq_true_eq]
  refine ⟨⟨?_,by rfl⟩,Nat.lt_trans hlt (by decide)⟩
  rw [List.all_eq_true]
  intro x hx
  have:=List.any_eq_false.mp star x hx
  simpa using this
 have hform:methodCallForm (pes.length+([]:List Keyword).length) (backTo p (starEach pes env)) (backToKw p (keywordEach [] env))=true:=few
 have hpos:methodCallPos true pa env ap p=pure p:=by unfold methodCallPos; simp [hline]
 rw [arm_eval_Call,mO hh]
 refine wpAny_bind (ha.at hs hr (At.start I F) w fun mo s₁ o st₁ ρ₁ w₁ r₁ a₁ S₁=>?_)
 obtain ⟨⟨j,fs,ho,hl⟩,w₁⟩:=w₁
 obtain ⟨cl,x,d,es',n,rfl,hd,g1,g2,inst⟩:=nA a₁.inv r₁ ho
 obtain ⟨fa,hfa,hf,ht,hk⟩:=cl.meth _ hm
 have g:=g2.get m
 rw [hl] at g
 refine wpAny_bind (wpAny_standAt ?_)
 unfold methodCall
 rw [hform]
 refine wpAny_bind (wpAny_holding (method_fn (a₁.inv.frag cl.inn) inst cl.get.1 cl.get.2 hf ht (by show (lookIn _ (dictOf es' n)).map _=_; rw [lookIn_dict,g]; rfl) ?_))
 refine wpAny_bind (wpAny_of_eq hpos ?_)
 refine callWith_of (P:=C.K.In) (by rw [star]; rfl) (keeps_K hk) (bR hes hs hr a₁ w₁ fun ms s₂ vs st₂ ρ₂ hn w₂ r₂ a₂ S₂=>⟨a₂.inv.frag cl.inn,?_⟩)
 exact wk (W:=True) (hr.mono (Nat.le_succ _)) hfa a₂ (.cons (r₁.kept S₂.kept) r₂) w₂
theorem uI {es:Es} {pes:List Expr} {p q:Pos} (hne:C.meths≠[]) (hk:cf sc "Store" =true) (hes:SEs C k sc es pes):SE C k sc (.make es) (.Call (.Name (("Store" :String):Str) p) pes [] q):=fun env A s γ ρ st Q X hs hr I F w=>by
 have cl:=C.hcls hne
 refine Call_ (gA I F cl.glo (hs▸hk) (callWith_of (P:=C.K.In) (by rw [cV hes.1]; rfl) (keeps_K cl.keep) (bR hes hs hr (At.start I F) w fun ms s₁ vs st₁ ρ₁ hn w₁ r₁ a₁ S₁=>⟨a₁.inv.frag cl.inn,?_⟩)))
 obtain ⟨fi,hfi,hf,ht⟩:=cl.init
 have KI:=a₁.inv.frag cl.inn
 obtain ⟨hh,g,d,t,os⟩:=s₁
 have nw:hh.get? hh.objs.size=none:=aN _
 obtain ⟨I2,S2⟩:=a₁.inv.snoc (s':=⟨hh.push emptyDict,g,d,t,os⟩) (o:=.attrs []) (bP.push ⟨hh,g,d,t,os⟩ _ t) nw ⟨_,Heap.get?_push_size _ rfl⟩ ⟨[],0,Heap.get?_push_size _ rfl,.nil⟩
 have sz:(hh.push emptyDict).objs.size=hh.objs.size+1:=Heap.size_push ..
 obtain ⟨I3,S3⟩:=I2.snoc (s':=⟨(hh.push emptyDict).push (instObj C.cls hh.objs.size),g,d,t,os⟩) (o:=.obj st₁.H.length) (a:=hh.objs.size+1) (bP.push ⟨hh.push emptyDict,g,d,t,os⟩ _ t) (by rw [← sz]; exact aN _)
  ⟨_,by rw [← sz]; exact Heap.get?_push_size _ rfl⟩ ⟨hne,hh.objs.size,by rw [← a₁.inv.len,List.getElem?_append_left (by simp),List.getElem?_append_right (Nat.le_refl _),Nat.sub_self]; rfl,by rw [← sz]; exact Heap.get?_push_size _ rfl⟩
 have a3:At C γ env ρ st s (ρ₁++[hh.objs.size]++[hh.objs.size+1]) ⟨st₁.s,st₁.H++[.attrs []]++[.obj st₁.H.length]⟩ ⟨(hh.push emptyDict).push (instObj C.cls hh.objs.size),g,d,t,os⟩:=
  ⟨I3,a₁.fra.step (st':=⟨st₁.s,st₁.H++[.attrs []]++[.obj st₁.H.length]⟩) (S2.trans S3) rfl,a₁.stp.trans (S2.trans S3),a₁.same⟩
 have rs:aR ((hh.push emptyDict).push (instObj C.cls hh.objs.size)) (ρ₁++[hh.objs.size]++[hh.objs.size+1]) (Nl γ (ρ₁++[hh.objs.size]++[hh.objs.size+1]) (st₁.H++[.attrs []]++[.obj st₁.H.length])) (.loc (st₁.H.length+1)::vs) (.ref (hh.objs.size+1)::ms):=
  .cons (.loc (by rw [List.getElem?_append_right (by rw [List.length_append,a₁.inv.len]; exact Nat.le_refl _),List.length_append,a₁.inv.len]; simp)) (r₁.kept (S2.trans S3).kept)
 have hr':bO (2*k) (A.under (.builtin "type.__call__" ⟨.ref C.cls::ms,[]⟩)) γ:=
  have hu:Code.cUnits (.builtin "type.__call__" ⟨.ref C.cls::ms,[]⟩)≤4:=by show (_:Nat)≤4; exact Nat.le_of_ble_eq_true rfl
  ⟨by have:=hr.depth; show A.depth+1+2*k < 900; exact lin [_,k] [(1,.a (.a (.v 0) (.a (.m 2 (.v 1)) (.n 1))) (.n 1),.n 900)] 1 (.a (.a (.a (.v 0) (.n 1)) (.m 2 (.v 1))) (.n 1)) (.n 900) rfl this,by have:=hr.units; show A.units+Code.cUnits (.builtin "type.__call__" ⟨.ref C.cls::ms,[]⟩)+4*(2*k) < 9000; exact lin [_,_,k] [(1,.v 1,.n 4),(1,.a (.a (.v 0) (.m 4 (.a (.m 2 (.v 2)) (.n 1)))) (.n 1),.n 9000)] 1 (.a (.a (.a (.v 0) (.v 1)) (.m 4 (.m 2 (.v 2)))) (.n 1)) (.n 9000) rfl hu this,hr.hdl,hr.frs⟩
 refine wpAny_call (make_core (makes_of KI cl.makes) (looks_findIn KI hf) (fun self=>bind_fn KI self ht) (.inl rfl) ?_)
 rcases w₁ with ⟨H',hc,hQ⟩ | ⟨c,H',hc,htk,hX⟩
 ·refine codeAny_mono (hc _ _ γ _ _ fi hr' I3 rs hfi) fun res s' p=>?_
  cases res with
  | error e=>exact p.elim
  | ok fl=>
   cases fl<;>first | exact p.elim | skip
   obtain ⟨ρ',p1,p2,p3⟩:=p
   obtain rfl:=p1.none_inv
   refine ⟨rfl,⟨_,⟨st₁.s,H'⟩,ρ',hQ,a₁.same,.loc (p3.kep.pre _ _ ?_),p2,a3.stp.trans p3⟩⟩
   rw [List.getElem?_append_right (by rw [List.length_append,a₁.inv.len]; exact Nat.le_refl _),List.length_append,a₁.inv.len]; simp
 ·refine codeAny_mono (hc _ _ γ _ _ fi hr' I3 rs hfi) fun res s' p=>?_
  cases res with
  | ok fl=>cases fl<;>exact p.elim
  | error e=>
   obtain ⟨ρ',p1,p2,p3⟩:=p
   have hn:ρ₁.length≤st₁.H.length:=by rw [a₁.inv.len]; exact Nat.le_refl _
   have I4:Inv C γ (ρ'.take st₁.H.length) (H'.take st₁.H.length) s':=p2.cut (fun z=>a₁.inv.hq (htk▸z)) fun i o hi ho=>by
    have:st₁.H[i]?= some o:=by rw [← htk,List.getElem?_take,if_pos hi]; exact ho
    exact a₁.inv.lowO this
   have S4:=((S2.trans S3).trans p3).cut hn
   rw [htk] at I4 S4
   exact ⟨c,st₁,_,hX,a₁.same,p1.back (a3.stp.back a3.inv),I4,a₁.stp.trans S4⟩
theorem uL {p:Pos}:SE C k sc .dict (.Dict [] [] p):=fun env A s γ ρ st Q X hs hr I F w=>by
 have ne:s.heap.objs.size≠sysModules:=Nat.ne_of_gt (modules_low (C.nolimit.keeps I.base))
 refine wpAny_Dict_empty ?_
 obtain ⟨I',S'⟩:=I.snoc (s':={ s with heap:=s.heap.push { cls:=.type "dict",data:=.dict #[]}}) (o:=.dictS []) (bP.push s _ s.toks) (aN _) ⟨_,Heap.get?_push_size _ rfl⟩ ⟨[],Heap.DictOf.new _,.nil,⟨Nat.zero_le _,ne⟩,fun _ h=>nomatch h⟩
 exact ⟨_,_,_,w,rfl,.loc (by rw [← I.len]; simp),I',S'⟩
theorem kN {x:String} {v:V} {vo:V} {mv mo:Value} {j:Nat} {fs:List (String×V)} {Ex:Value→Shared→Prop} {Q:Unit→Shared→Prop} (hx:x∈C.ats) (I:Inv C γ ρ H s) (ro:Rel s.heap ρ (Nl γ ρ H) vo mo) (rv:Rel s.heap ρ (Nl γ ρ H) v mv) (ho:eF H vo j fs) (hl:fs.length < 900)
  (h: ∀ s',Inv C γ ρ (H.set j (.attrs (rV x v fs))) s'→Stp ρ H s ρ (H.set j (.attrs (rV x v fs))) s'→Q () s'):wpAny C.M A (setAttr mo (x:Str) mv) Q Ex s:=by
 obtain ⟨cl,x',d,es,n,rfl,⟨hd,hj⟩,g1,g2,inst⟩:=nA I ro ho
 have KI:=I.frag cl.inn
 refine set_plain KI inst cl.set (osa_open (s:={ s with toks:=s.toks+1 }) KI inst cl.over (r:=none) (by unfold takerIn; rw [cl.attr x hx]; rfl) fun b=>?_)
 obtain ⟨cd,hc,hdd⟩:=any_some cl.hasD
 refine wpAny_bind (wpAny_pure (wpAny_bind (wpAny_bind (wpAny_loadPart inst.at_ (wpAny_bind (Looks.here (s:={ s with toks:=s.toks+1 }) (looks_clsIn KI hc) ?_))))))
 rw [hdd]
 refine wpAny_pure (a:=some d) (wpAny_bind (wpAny_pure (wpAny_bind ?_)))
 unfold nsSet
 refine wpAny_bind (wpAny_bind (wpAny_askSetting (wpAny_pure (wpAny_bind (wpAny_mkText (wpAny_bind (wpAny_loadPart (show s.heap.get? d=_ from g1) ?_)))))))
 dsimp only
 rw [aRefKeyMayBeTheName_at,show (!es.toArray.any (·.key.isStr (x:Str)) && es.toArray.any (·.refKey))=false by rw [← Array.any_toList (p:=DictEntry.refKey),g2.noRef,Bool.and_false]]
 refine wpAny_updatePart g1 ?_
 have e1:=putName_dict (x:Str) (PyData.keyHash C.w.params (x:Str)) (.str (x:Str) (s.toks+1)) mv es n
 have fr:(Obj.putName (x:Str) (PyData.keyHash C.w.params (x:Str)) (.str (x:Str) (s.toks+1)) mv (dictOf es n)).isFreed=false:=by rw [e1]; rfl
 have u1:=Heap.get?_update_self (Obj.putName (x:Str) (PyData.keyHash C.w.params (x:Str)) (.str (x:Str) (s.toks+1)) mv) g1 fr
 rw [e1] at u1
 have ra:=g2.put x rv (PyData.keyHash C.w.params (x:Str)) (s.toks+1)
 refine wpAny_bind (wpAny_lookBehind u1 (pastItsLine_dict (by rw [List.size_toArray,← ra.length]; have:=lS x v fs; exact Nat.le_trans this (show fs.length+1≤16777216+1 by exact lin [_] [(1,.a (.v 0) (.n 1),.n 900)] 1 (.a (.v 0) (.n 1)) (.a (.n 16777216) (.n 1)) rfl hl))) (wpAny_pure ?_))
 obtain ⟨I',S'⟩:=I.upd (s':={ s with heap:=s.heap.update d (Obj.putName (x:Str) (PyData.keyHash C.w.params (x:Str)) (.str (x:Str) (s.toks+1)) mv),toks:=s.toks+1+1 }) (o':=.attrs (rV x v fs)) hd hj rfl rfl (fun b hb=>Heap.get?_update_other _ _ (Ne.symm hb)) ⟨_,u1⟩ rfl rfl fun kp=>
  ⟨_,_,u1,ra.map fun _ _ q=>q.kept kp⟩
 exact h _ I' S'
end
end
noncomputable section
open PySem PyProof.Rows
structure Nm where
 all:List String
 fns:List String
 exs:List String
 meths:List (String×String)
 ats:List String
noncomputable def Cx.nm (C:Cx) (l:List String):Nm:=⟨l,C.fns,C.exs,C.meths,C.ats⟩
noncomputable def nm (l:List String) (y:Str):Option { x:String // (x:Str)=y }:=l.findSome? fun (x:String)=>if h:(x:Str)=y then some ⟨x,h⟩ else none
noncomputable def ld (e:Expr):Option { x:Str×Pos // e=.Name x.1 x.2 }:=match e with
 | .Name x p=>some ⟨(x,p),rfl⟩
 | _=>none
noncomputable def zC (e:Expr):Option { x:Expr×Str×Pos // e=.Attribute x.1 x.2.1 x.2.2 }:=match e with
 | .Attribute a m p=>some ⟨(a,m,p),rfl⟩
 | _=>none
noncomputable def GO (e:Expr):Option { x:Option Expr×Option Expr×Option Expr×Pos // e=.Slice x.1 x.2.1 x.2.2.1 x.2.2.2 }:=match e with
 | .Slice a b c p=>some ⟨(a,b,c,p),rfl⟩
 | _=>none
noncomputable def one {α:Type} (l:List α):Option { x:α // l=[x]}:=l.head?.bind fun x=>l.rec none fun y r _=>r.rec (some ⟨y,rfl⟩) fun _ _ _=>none
noncomputable def two {α:Type} (l:List α):Option { x:α×α // l=[x.1,x.2]}:=l.rec none fun y r _=>r.rec none fun z r' _=>r'.rec (some ⟨(y,z),rfl⟩) fun _ _ _=>none
noncomputable def GU (g:String):Option { f:BN // f.name=g }:=
 if h: "len" =g then some ⟨.len,h⟩ else if h: "str" =g then some ⟨.str,h⟩ else if h: "int" =g then some ⟨.int,h⟩ else if h: "range" =g then some ⟨.range,h⟩ else if h: "list" =g then some ⟨.list,h⟩ else if h: "sorted" =g then some ⟨.sorted,h⟩ else if h: "max" =g then some ⟨.max,h⟩ else if h: "min" =g then some ⟨.min,h⟩ else none
noncomputable def FV (g:String):Option { f:MN // f.name=g }:=
 if h: "append" =g then some ⟨.append,h⟩ else if h: "startswith" =g then some ⟨.startswith,h⟩ else if h: "pop" =g then some ⟨.pop,h⟩ else if h: "index" =g then some ⟨.index,h⟩ else if h: "split" =g then some ⟨.split,h⟩ else if h: "join" =g then some ⟨.join,h⟩ else if h: "get" =g then some ⟨.get,h⟩ else if h: "extend" =g then some ⟨.extend,h⟩ else none
noncomputable def mOf (g:String):(l:List (String×String))→Option { f:String // (g,f)∈l }
 | []=>none
 | p::r=>if h:p.1=g then some ⟨p.2,by rw [← h]; exact List.mem_cons_self⟩ else (mOf g r).map fun x=>⟨x.1,List.mem_cons_of_mem _ x.2⟩
noncomputable def lK (f:Expr→E):List Expr→Es
 | []=>.nil
 | e::r=>.cons (f e) (lK f r)
noncomputable def wA (f:Expr→E) (o:Option Expr):E:=o.elim .omit f
noncomputable def tQ (c:Const):E:=match c with
 | .none=>.none
 | .bool b=>.bool b
 | .int i=>.int i
 | .str x=>bif decide (x.cps.toList.length≤1000) && x.cps.toList.all (· < 128) then .str x.cps.toList else .stuck
 | _=>.stuck
noncomputable def zR (N:Nm) (sc:Scope) (y:Str):E:=(nm N.all y).elim .stuck fun x=>bif wd sc x.1 && (!((x.1:Str) == ("__debug__" :Str)) && !((x.1:Str) == ("__classdict__" :Str)) && !((x.1:Str) == (".0" :Str))) then .var x.1 else bif cf sc x.1 then .glo x.1 else .stuck
noncomputable def cUn (op:UnaryOp) (a:E):E:=match op with
 | .USub=>.neg a
 | .Not=>.not a
 | _=>.stuck
noncomputable def Fg (c:Expr→E) (a:Expr) (ops:List CmpOp) (es:List Expr):E:=
 (one ops).elim ((two ops).elim .stuck fun o=>(two es).elim .stuck fun y=>bif !bE y.1.2 then .cmp2 o.1.1 o.1.2 (c a) (c y.1.1) (c y.1.2) else .stuck) fun o=>(one es).elim .stuck fun y=>bif !bE y.1 then .cmp o.1 (c a) (c y.1) else .stuck
noncomputable def Fb (c:Expr→E) (a i:Expr):E:=(GO i).elim (.idx (c a) (c i)) fun x=>bif x.1.2.2.1.isNone && !(wA c x.1.1).isOmit.xor x.1.1.isNone && !(wA c x.1.2.1).isOmit.xor x.1.2.1.isNone then .slc (c a) (wA c x.1.1) (wA c x.1.2.1) else .stuck
noncomputable def Fd (N:Nm) (sc:Scope) (c:Expr→E) (es:List Expr):E:=(two es).elim .stuck fun y=>(ld y.1.2).elim .stuck fun u=>(nm N.all u.1.1).elim .stuck fun t=>
 bif cf sc "isinstance" && cf sc t.1 && bq y.1.1 then (bif tyNames.contains t.1 then .isi (c y.1.1) t.1 else if t.1= "Store" then (bif !N.meths.isEmpty then .isiS (c y.1.1) else .stuck) else .stuck) else .stuck
noncomputable def Fe (N:Nm) (sc:Scope) (c:Expr→E) (y:Str) (es:List Expr):E:=(nm N.all y).elim .stuck fun g=>
 if g.1= "isinstance" then Fd N sc c es else
 if g.1= "Store" then (bif cf sc "Store" && !N.meths.isEmpty && es.all bq then .make (lK c es) else .stuck) else
 bif cf sc g.1 && !es.isEmpty && es.all bq then (bif N.fns.contains g.1 then .call g.1 (lK c es) else (GU g.1).elim .stuck fun f=>.blt f.1 (lK c es)) else .stuck
noncomputable def Fc (N:Nm) (c:Expr→E) (a:Expr) (y:Str) (ap:Pos) (es:List Expr) (p:Pos):E:=(nm N.all y).elim .stuck fun g=> 
 bif bq a && decide (es.length < 20) && (ap.endLine == p.line) && es.all bq then (mOf g.1 N.meths).elim ((FV g.1).elim .stuck fun m=>.mth m.1 (c a) (lK c es)) fun f=>.mcall f.1 g.1 (c a) (lK c es) else .stuck
noncomputable def zU (N:Nm) (c:Expr→E) (a:Expr) (y:Str):E:=(nm N.all y).elim .stuck fun x=>bif bq a && N.ats.contains x.1 then .attr (c a) x.1 else .stuck
noncomputable def zT (N:Nm) (sc:Scope) (c:Expr→E) (f:Expr) (es:List Expr) (kw:List Keyword) (p:Pos):E:=bif kw.isEmpty then (ld f).elim ((zC f).elim .stuck fun x=>Fc N c x.1.1 x.1.2.1 x.1.2.2 es p) fun x=>Fe N sc c x.1.1 es else .stuck
noncomputable def zS (N:Nm) (sc:Scope) (c c':Expr→E) (elt:Expr) (gs:List Comprehension) (cs:Scope):E:=(one gs).elim .stuck fun g=>(ld g.1.target).elim .stuck fun y=>(nm N.all y.1.1).elim .stuck fun x=>
 bif dp cs sc x.1 && !bE g.1.iter && (g.1.is_async == 0) then (one g.1.ifs).elim (bif g.1.ifs.isEmpty then .comp (c' elt) x.1 (c g.1.iter) else .stuck) fun pc=>.compIf (c' elt) x.1 (c g.1.iter) (c' pc.1) else .stuck
noncomputable def tR (N:Nm) (sc:Scope) (c c':Expr→E) (elt:Expr) (gs:List Comprehension) (cs:Scope):E:=(one gs).elim .stuck fun g=>(ld g.1.target).elim .stuck fun y=>(nm N.all y.1.1).elim .stuck fun x=>
 bif dp cs sc x.1 && !bE g.1.iter && (g.1.is_async == 0) then (one g.1.ifs).elim (bif g.1.ifs.isEmpty then .compX (c' elt) x.1 (c g.1.iter) else .stuck) fun pc=>.compIf (c' elt) x.1 (c g.1.iter) (c' pc.1) else .stuck
noncomputable def cE (N:Nm):Nat→Scope→Expr→E
 | 0=>fun _ _=>.stuck
 | n+1=>fun sc pe=>match pe with
  | .Constant c _ _=>tQ c
  | .Name x _=>zR N sc x
  | .Tuple es _ _=>bif decide (es.length≤1000) && es.all bq then .tup (lK (cE N n sc) es) else .stuck
  | .List es _=>bif decide (es.length≤1000) && es.all bq then .list (lK (cE N n sc) es) else .stuck
  | .BinOp a op b _=>.bin op (cE N n sc a) (cE N n sc b)
  | .UnaryOp op a _=>cUn op (cE N n sc a)
  | .BoolOp op es _=>bif !es.isEmpty then (match op with | .And=>.and (lK (cE N n sc) es) | .Or=>.or (lK (cE N n sc) es)) else .stuck
  | .Compare a ops es _=>Fg (cE N n sc) a ops es
  | .Subscript a i _=>Fb (cE N n sc) a i
  | .Call f es kw p=>zT N sc (cE N n sc) f es kw p
  | .Attribute a y _=>zU N (cE N n sc) a y
  | .Dict ks vs _=>bif ks.isEmpty && vs.isEmpty then .dict else .stuck
  | .ListComp e gs cs _=>tR N sc (cE N n sc) (cE N n (dy cs sc)) e gs cs
  | _=>.stuck
section
variable {C:Cx} {k:Nat} {sc:Scope} {pe:Expr}
noncomputable def Snd (C:Cx) (k:Nat) (sc:Scope) (e:E) (pe:Expr):Prop:=SE C k sc e pe∧ST C k sc e pe
theorem aj:Snd C k sc .stuck pe:=⟨sw,fun _ _ _ _ _ _ _ _ _ _ _ _ w=>False.elim w⟩
theorem aZ {α:Type} {o:Option α} {g:α→E} {d:E} (h0:Snd C k sc d pe) (h: ∀ x,o=some x→Snd C k sc (g x) pe):Snd C k sc (o.elim d g) pe:=by
 cases o with
 | none=>exact h0
 | some x=>exact h x rfl
theorem bD {b:Bool} {e d:E} (h0:Snd C k sc d pe) (h:b=true→Snd C k sc e pe):Snd C k sc (bif b then e else d) pe:=by
 cases b with
 | false=>exact h0
 | true=>exact h rfl
theorem lP {P:Prop} [Decidable P] {e d:E} (h0:Snd C k sc d pe) (h:P→Snd C k sc e pe):Snd C k sc (if P then e else d) pe:=by
 by_cases q:P
 ·rw [if_pos q]; exact h q
 ·rw [if_neg q]; exact h0
theorem bv {e:E} (he:SE C k sc e pe) (hp: ∀ env (whole:Sem Value),isTrue pe env whole=(do let v ← whole; standAt pe.pos; holding [v] (truthy v))):Snd C k sc e pe:=⟨he,se he hp⟩
theorem bN {a b:Bool} (h:(a && b)=true):a=true∧b=true:=Bool.and_eq_true_iff.mp h
theorem oQ {a:Bool} (h:(!a)=true):a=false:=by cases a<;>first | rfl | cases h
theorem cZ {α:Type} {l:List α} (h:(!l.isEmpty)=true):l≠[]:=fun e=>by rw [e] at h; cases h
theorem kM {f:Expr→E} {P:E→Expr→Prop} (h: ∀ pe,P (f pe) pe): ∀ pes:List Expr,lA P (lK f pes) pes
 | []=>.nil
 | pe::r=>.cons (h pe) (kM h r)
theorem tX {f:Expr→E} {P:E→Expr→Prop} (h: ∀ pe,P (f pe) pe): ∀ pes:List Expr,pes.all bq=true→lA (fun e pe=>P e pe∧bq pe=true) (lK f pes) pes
 | [],_=>.nil
 | pe::r,q=>.cons ⟨h pe,(bN q).1⟩ (tX h r (bN q).2)
theorem dw {f:Expr→E} (h: ∀ pe,Snd C k sc (f pe) pe) {pes:List Expr} (q:pes.all bq=true):SEs C k sc (lK f pes) pes:=xQ (tX (fun pe=>(h pe).1) pes q)
theorem pZ {c:Const} {u:Nat} {p:Pos}:Snd C k sc (tQ c) (.Constant c u p):=by
 cases c with
 | none=>exact bv uH fun _ _=>rfl
 | bool b=>exact bv uP fun _ _=>rfl
 | int i=>exact bv xZ fun _ _=>rfl
 | str x=>exact bD aj fun h=>bv (xT h) fun _ _=>rfl
 | _=>exact aj
theorem sj {l:List String} {y:Str} {p:Pos}:Snd C k sc (zR (C.nm l) sc y) (.Name y p):=by
 refine aZ aj fun x _=>?_
 obtain ⟨x,rfl⟩:=x
 exact bD (bD aj fun h=>bv (yb h) fun _ _=>rfl) fun h=>bv (xR (bN h).1 (bN h).2) fun _ _=>rfl
theorem uE {c:Expr→E} (ih: ∀ pe,Snd C k sc (c pe) pe) {a:Expr} {ops:List CmpOp} {es:List Expr} {p:Pos}:Snd C k sc (Fg c a ops es) (.Compare a ops es p):=by
 refine aZ (aZ aj fun o _=>aZ aj fun y _=>bD aj fun h=>?_) fun o _=>aZ aj fun y _=>bD aj fun h=>?_
 ·obtain ⟨⟨o1,o2⟩,rfl⟩:=o
  obtain ⟨⟨b,d⟩,rfl⟩:=y
  exact ⟨uN (oQ h) (ih a).1 (ih b).1 (ih d).1,ur (oQ h) (ih a).1 (ih b).1 (ih d).1⟩
 ·obtain ⟨o,rfl⟩:=o
  obtain ⟨y,rfl⟩:=y
  exact ⟨yc (oQ h) (ih a).1 (ih y).1,xH (oQ h) (ih a).1 (ih y).1⟩
theorem tz {c:Expr→E} (ih: ∀ pe,Snd C k sc (c pe) pe) {o:Option Expr} (h:(!(wA c o).isOmit.xor o.isNone)=true):DS C k sc (wA c o) o:=by
 cases o with
 | none=>exact .inl ⟨rfl,rfl⟩
 | some pe=>
  refine .inr ⟨?_,pe,rfl,(ih pe).1⟩
  cases q:(wA c (some pe)).isOmit with
  | false=>rfl
  | true=>rw [q] at h; cases h
theorem uA {c:Expr→E} (ih: ∀ pe,Snd C k sc (c pe) pe) {a i:Expr} {p:Pos}:Snd C k sc (Fb c a i) (.Subscript a i p):=by
 refine aZ (bv (ya (ih a).1 (ih i).1) fun _ _=>rfl) fun x _=>bD aj fun h=>?_
 obtain ⟨⟨lo,hi,st,q⟩,rfl⟩:=x
 obtain ⟨h,h3⟩:=bN h
 obtain ⟨h1,h2⟩:=bN h
 have h1:st=none:=Option.isNone_iff_eq_none.mp h1
 subst h1
 exact bv (xU (ih a).1 (tz ih h2) (tz ih h3)) fun _ _=>rfl
theorem uC {l:List String} {c:Expr→E} (ih: ∀ pe,Snd C k sc (c pe) pe) {es:List Expr} {p q:Pos}:Snd C k sc (Fd (C.nm l) sc c es) (.Call (.Name ("isinstance" :String) p) es [] q):=by
 refine aZ aj fun y _=>?_
 obtain ⟨⟨a,t⟩,rfl⟩:=y
 refine aZ aj fun u _=>?_
 obtain ⟨⟨u,p'⟩,hu⟩:=u
 have hu:t=.Name u p':=hu
 subst hu
 refine aZ aj fun x _=>?_
 obtain ⟨x,hx⟩:=x
 have hx:(x:Str)=u:=hx
 subst hx
 refine bD aj fun h=>?_
 obtain ⟨h,h3⟩:=bN h
 obtain ⟨h1,h2⟩:=bN h
 refine bD (lP aj fun e=>bD aj fun hm=>?_) fun e=>?_
 ·have e:x= "Store" :=e
  subst e; exact bv (uK (cZ hm) h1 h2 h3 (ih a).1) fun _ _=>rfl
 ·exact bv (xY h1 (List.contains_iff_mem.mp e) h2 h3 (ih a).1) fun _ _=>rfl
theorem uD {l:List String} {c:Expr→E} (ih: ∀ pe,Snd C k sc (c pe) pe) {y:Str} {es:List Expr} {p q:Pos}:Snd C k sc (Fe (C.nm l) sc c y es) (.Call (.Name y p) es [] q):=by
 refine aZ aj fun x _=>?_
 obtain ⟨x,rfl⟩:=x
 refine lP (lP (bD aj fun h=>?_) fun e=>bD aj fun h=>?_) fun e=>?_
 ·obtain ⟨h,h3⟩:=bN h
  obtain ⟨h1,h2⟩:=bN h
  refine bD (aZ aj fun f _=>?_) fun e=>bv (uO (List.contains_iff_mem.mp e) h1 (cZ h2) (dw ih h3)) fun _ _=>rfl
  obtain ⟨f,hf⟩:=f
  have hf:f.name=x:=hf
  subst hf
  exact bv (yd h1 (cZ h2) (dw ih h3)) fun _ _=>rfl
 ·have e:x= "Store" :=e
  subst e
  obtain ⟨h,h3⟩:=bN h
  obtain ⟨h1,h2⟩:=bN h
  exact bv (uI (cZ h2) h1 (dw ih h3)) fun _ _=>rfl
 ·have e:x= "isinstance" :=e
  subst e; exact uC ih
theorem uB {l:List String} {c:Expr→E} (ih: ∀ pe,Snd C k sc (c pe) pe) {a:Expr} {y:Str} {ap:Pos} {es:List Expr} {p:Pos}:Snd C k sc (Fc (C.nm l) c a y ap es p) (.Call (.Attribute a y ap) es [] p):=by
 refine aZ aj fun x _=>?_
 obtain ⟨x,rfl⟩:=x
 refine bD aj fun h=>?_
 obtain ⟨h,h5⟩:=bN h
 obtain ⟨h,h4⟩:=bN h
 obtain ⟨h1,h3⟩:=bN h
 refine aZ (aZ aj fun m _=>?_) fun f _=>bv (sy f.2 h1 (of_decide_eq_true h3) (beq_iff_eq.mp h4) (ih a).1 (dw ih h5)) fun _ _=>rfl
 obtain ⟨m,hm⟩:=m
 have hm:m.name=x:=hm
 subst hm
 exact bv (xX h1 (of_decide_eq_true h3) (beq_iff_eq.mp h4) (ih a).1 (dw ih h5)) fun _ _=>rfl
theorem sq {l:List String} {c:Expr→E} (ih: ∀ pe,Snd C k sc (c pe) pe) {a:Expr} {y:Str} {p:Pos}:Snd C k sc (zU (C.nm l) c a y) (.Attribute a y p):=by
 refine aZ aj fun x _=>?_
 obtain ⟨x,rfl⟩:=x
 exact bD aj fun h=>bv (uQ (bN h).1 (List.contains_iff_mem.mp (bN h).2) (ih a).1) fun _ _=>rfl
theorem so {l:List String} {c:Expr→E} (ih: ∀ pe,Snd C k sc (c pe) pe) {f:Expr} {es:List Expr} {kw:List Keyword} {p:Pos}:Snd C k sc (zT (C.nm l) sc c f es kw p) (.Call f es kw p):=by
 refine bD aj fun h=>?_
 have h:kw=[]:=List.isEmpty_iff.mp h
 subst h
 refine aZ (aZ aj fun x _=>?_) fun x _=>?_
 ·obtain ⟨⟨a,m,ap⟩,rfl⟩:=x
  exact uB ih
 ·obtain ⟨⟨y,q⟩,rfl⟩:=x
  exact uD ih
theorem sk {l:List String} {c c':Expr→E} {cs:Scope} (ih: ∀ pe,Snd C k sc (c pe) pe) (ih': ∀ pe,Snd C k (dy cs sc) (c' pe) pe) {elt:Expr} {gs:List Comprehension} {p:Pos}:Snd C k sc (tR (C.nm l) sc c c' elt gs cs) (.ListComp elt gs cs p):=by
 refine aZ aj fun g _=>?_
 obtain ⟨⟨tg,it,ifs,asy⟩,rfl⟩:=g
 refine aZ aj fun y _=>?_
 obtain ⟨⟨y,q⟩,hy⟩:=y
 have hy:tg=.Name y q:=hy
 subst hy
 refine aZ aj fun x _=>?_
 obtain ⟨x,hx⟩:=x
 have hx:(x:Str)=y:=hx
 subst hx
 refine bD aj fun h=>?_
 obtain ⟨h,h3⟩:=bN h
 obtain ⟨h1,h2⟩:=bN h
 have h3:asy=0:=beq_iff_eq.mp h3
 subst h3
 refine aZ (bD aj fun e=>?_) fun pc _=>?_
 ·have e:ifs=[]:=List.isEmpty_iff.mp e
  subst e
  exact bv (sA h1 (oQ h2) (ih' elt).1 (ih it).1) fun _ _=>rfl
 ·obtain ⟨pc,hp⟩:=pc
  have hp:ifs=[pc]:=hp
  subst hp
  exact bv (kK h1 (oQ h2) (ih' elt).1 (ih it).1 (ih' pc).2) fun _ _=>rfl
theorem tx {l:List String}: ∀ (n:Nat) (sc:Scope) (pe:Expr),Snd C k sc (cE (C.nm l) n sc pe) pe
 | 0,_,_=>aj
 | n+1,sc,pe=>by
  have ih:=fun sc=>tx (l:=l) n sc
  cases pe with
  | Constant c u p=>exact pZ
  | Name x p=>exact sj
  | Tuple es u p=>exact bD aj fun h=>bv (xS (of_decide_eq_true (bN h).1) (dw (ih sc) (bN h).2)) fun _ _=>rfl
  | List es p=>exact bD aj fun h=>bv (uJ (of_decide_eq_true (bN h).1) (dw (ih sc) (bN h).2)) fun _ _=>rfl
  | BinOp a op b p=>exact bv (ye (ih sc a).1 (ih sc b).1) fun _ _=>rfl
  | UnaryOp op a p=>
   cases op with
   | USub=>exact bv (xW (ih sc a).1) fun _ _=>rfl
   | Not=>exact ⟨xV (ih sc a).1,xG (ih sc a).2⟩
   | _=>exact aj
  | BoolOp op es p=>
   refine bD aj fun h=>?_
   cases op with
   | And=>exact ⟨yf (kM (fun pe=>(ih sc pe).1) es) (cZ h),xI (kM (fun pe=>(ih sc pe).2) es)⟩
   | Or=>exact ⟨Ci (kM (fun pe=>(ih sc pe).1) es) (cZ h),Cg (kM (fun pe=>(ih sc pe).2) es)⟩
  | Compare a ops es p=>exact uE (ih sc)
  | Subscript a i p=>exact uA (ih sc)
  | Call f es kw p=>exact so (ih sc)
  | Attribute a y p=>exact sq (ih sc)
  | Dict ks vs p=>
   refine bD aj fun h=>?_
   have h1:ks=[]:=List.isEmpty_iff.mp (bN h).1
   have h2:vs=[]:=List.isEmpty_iff.mp (bN h).2
   subst h1 h2
   exact bv uL fun _ _=>rfl
  | ListComp e gs cs p=>exact sk (ih sc) (ih (dy cs sc))
  | _=>exact aj
end
end
noncomputable section
open PySem PyProof.Rows
noncomputable def Own (env:Env) (b:Addr):Prop:=b=env.locals∨∃ n,env.kindOf n=some .cell∧env.cells.lookup n=some b
structure cw (W:Addr→Prop) (ρ:List Addr) (H:List HO) (s:Shared) (ρ':List Addr) (H':List HO) (s':Shared):Prop where
 keep: ∀ a o,s.heap.get? a=some o→¬ Lv ρ H a→¬ W a→∃ o',s'.heap.get? a=some o'∧dQ o o'
 live: ∀ a,¬ W a→Lv ρ' H' a→Lv ρ H a∨s.heap.get? a=none
 pre: ∀ (i:Nat) a,ρ[i]?= some a→ρ'[i]?= some a
section
variable {W:Addr→Prop} {ρ ρ' ρ'':List Addr} {H H' H'':List HO} {s s' s'':Shared}
theorem Stp.w (S:Stp ρ H s ρ' H' s'):cw W ρ H s ρ' H' s':=⟨fun a o e n _=>S.kep.keep a o e n,fun a _ q=>S.kep.live a q,S.kep.pre⟩
theorem cw.refl:cw W ρ H s ρ H s:=(Stp.refl ρ H s).w
theorem cw.notLive (x:cw W ρ H s ρ' H' s') {a:Addr} {o:Obj} (e:s.heap.get? a=some o) (n: ¬ Lv ρ H a) (nw: ¬ W a): ¬ Lv ρ' H' a:=fun q=>by
 rcases x.live a nw q with z | z
 ·exact n z
 ·rw [e] at z; cases z
theorem cw.same (x:cw W ρ H s ρ' H' s') {a:Addr} {o:Obj} (e:s.heap.get? a=some o) (n: ¬ Lv ρ H a) (nw: ¬ W a) (hd: ∀ es m,o.data≠.dict es m):s'.heap.get? a=some o:=by
 obtain ⟨o',e',al⟩:=x.keep a o e n nw
 rw [e',al.same hd]
theorem cw.trans (x:cw W ρ H s ρ' H' s') (y:cw W ρ' H' s' ρ'' H'' s''):cw W ρ H s ρ'' H'' s'':=by
 refine ⟨fun a o e n nw=>?_,fun a nw q=>?_,fun i a e=>y.pre _ _ (x.pre _ _ e)⟩
 ·obtain ⟨o',e',q⟩:=x.keep a o e n nw
  obtain ⟨o'',e'',q'⟩:=y.keep a o' e' (x.notLive e n nw) nw
  exact ⟨o'',e'',q.trans q'⟩
 ·rcases y.live a nw q with z | z
  ·exact x.live a nw z
  ·by_cases hL:Lv ρ H a
   ·exact .inl hL
   ·right
    cases hg:s.heap.get? a with
    | none=>rfl
    | some o=>
     obtain ⟨o',e',_⟩:=x.keep a o hg hL nw
     rw [z] at e'; cases e'
theorem cw.touch {a:Addr} (x:cw W ρ H s ρ' H' s') (hw:W a∨s.heap.get? a=none) (k: ∀ b o,b≠a→s'.heap.get? b=some o→s''.heap.get? b=some o):cw W ρ H s ρ' H' s'':=
 ⟨(fun b o e n nw=>by
  obtain ⟨o',e',q⟩:=x.keep b o e n nw
  refine ⟨o',k b o' (fun q=>?_) e',q⟩
  subst q
  rcases hw with z | z
  ·exact nw z
  ·rw [e] at z; cases z),x.live,x.pre⟩
end
section
variable {C:Cx} {k:Nat} {γ γ':Gh} {env:Env} {A:Around} {ρ₁:List Addr} {st₁:St} {s₁:Shared} {ρ ρ':List Addr} {st st':St} {s s':Shared} {E:Value→Shared→Prop}
theorem Fra.own_ghost (F:Fra γ env st ρ s) {b:Addr} (h:Own env b):γ.h b:=by
 rcases h with rfl | ⟨n,hk,hl⟩
 ·exact F.own
 ·obtain ⟨c,ov,h1,h2,_⟩:=F.cell n (.inl hk)
  rw [hl] at h1; cases h1; exact h2.2
theorem Fra.own_nb (F:Fra γ env st ρ s) {b:Addr} (h:Own env b): ¬ γ.b b:=by
 rcases h with rfl | ⟨n,_,hl⟩
 ·exact F.nb
 ·exact (F.nbc n b hl).2
theorem Fra.cell_ne (F:Fra γ env st ρ s) {n:Str} {c:Addr} (hk:env.kindOf n=some .cell∨env.kindOf n=some .free) (hl:env.cells.lookup n=some c):c≠env.locals:=fun e=>by
 obtain ⟨c',ov,h1,h2,⟨o,ho,hd⟩,_⟩:=F.cell n hk
 rw [hl] at h1; cases h1
 obtain ⟨m,⟨o',es,ep,ho',hd',_⟩,_⟩:=F.ns
 rw [e,ho'] at ho; cases ho
 rw [hd'] at hd; cases hd
theorem Fra.cls_false (F:Fra γ env st ρ s):(env.scope.kind == .class || (env.scope.kind == .module && env.locals != env.globals))=false:=by rw [F.kind]; rfl
theorem ft {x:String} {v:V} {mv:Value} (hk:kd env.scope x=some .local∨kd env.scope x=some .cell) (I:Inv C γ ρ st.H s) (F:Fra γ env st ρ s) (r:Rel s.heap ρ (Nl γ ρ st.H) v mv):
  wpAny C.M A (storeName env x mv) (fun _ s'=>Inv C γ ρ st.H s'∧Fra γ env (st.set x v) ρ s'∧cw (Own env) ρ st.H s ρ st.H s') E s:=by
 obtain ⟨m,hm,hv⟩:=F.ns
 rcases hk with hk | hk
 ·refine wpAny_storeName_local hk hm (fun h' hn' hs'=>?_) F.cls_false
  have k1: ∀ b o,b≠env.locals→s.heap.get? b=some o→h'.get? b=some o:=fun b o hb e=>hs'.extBut b o hb e
  have K:=bQ (s:=s) (s':={ s with heap:=h',toks:=s.toks+1 }) (ρ:=ρ) (H:=st.H) F.own k1
  refine ⟨I.touch F.own F.nb (fun _=>fZ hn') k1 (cy hn') rfl rfl,⟨F.kind,F.glob,F.blt,F.nl,F.own,⟨_,hn',fun y w ky kz q=>?_⟩,fun n kn=>?_,F.apart,F.nb,F.nbc⟩,cw.refl.touch (.inl (.inl rfl)) k1⟩
  ·by_cases e:y=x
   ·subst e
    simp only [St.set,if_true,Option.some.injEq] at q
    subst q
    exact ⟨mv,by simp,r.kept K⟩
   ·have e':(y:Str)≠(x:Str):=fun z=>e (fm z)
    simp only [St.set,if_neg e] at q
    obtain ⟨mw,e1,e2⟩:=hv y w ky kz q
    exact ⟨mw,by simp [e',e1],e2.kept K⟩
  ·obtain ⟨c,ov,h1,h2,⟨o,ho,hd⟩,h4⟩:=F.cell n kn
   refine ⟨c,ov,h1,h2,⟨o,k1 _ _ (F.cell_ne kn h1) ho,hd⟩,fun y hy w q=>?_⟩
   have e:y≠x:=fun e=>by subst e; rw [← hy] at kn; rcases kn with kn | kn<;>· rw [show env.kindOf (y:Str)=some .local from hk] at kn; cases kn
   simp only [St.set,if_neg e] at q
   obtain ⟨mw,e1,e2⟩:=h4 y hy w q
   exact ⟨mw,e1,e2.kept K⟩
 ·obtain ⟨c,ov,h1,h2,h3,h4⟩:=F.cell x (.inl hk)
  refine wpAny_storeName_cell F.kind hk h1 h3 (fun h' hn' hs'=>?_)
  have k1: ∀ b o,b≠c→s.heap.get? b=some o→h'.get? b=some o:=fun b o hb e=>hs'.extBut b o hb e
  have K:=bQ (s:=s) (s':={ s with heap:=h' }) (ρ:=ρ) (H:=st.H) h2.2 k1
  have hne:=F.cell_ne (.inl hk) h1
  refine ⟨I.touch h2.2 (F.nbc _ _ h1).2 (fun q=>by obtain ⟨o,es,n,e,d⟩:=I.frm c q; obtain ⟨o',e',d'⟩:=h3; rw [e] at e'; cases e'; rw [d] at d'; cases d') k1 (let ⟨o,e,_⟩:=hn'; ⟨o,e⟩) rfl rfl,⟨F.kind,F.glob,F.blt,F.nl,F.own,⟨m,aO hm fun o ho=>⟨o,k1 _ _ (Ne.symm hne) ho,.refl o⟩,fun y w ky kz q=>?_⟩,fun n kn=>?_,F.apart,F.nb,F.nbc⟩,cw.refl.touch (.inl (.inr ⟨_,hk,h1⟩)) k1⟩
  ·have e:y≠x:=fun e=>by subst e; rw [show env.kindOf (y:Str)=some .cell from hk] at ky; cases ky
   simp only [St.set,if_neg e] at q
   obtain ⟨mw,e1,e2⟩:=hv y w ky kz q
   exact ⟨mw,e1,e2.kept K⟩
  ·by_cases e:n=(x:Str)
   ·subst e
    refine ⟨c,_,h1,h2,hn',fun y hy w q=>?_⟩
    have:=fm hy; subst this
    simp only [St.set,if_true,Option.some.injEq] at q
    subst q
    exact ⟨mv,rfl,r.kept K⟩
   ·obtain ⟨c',ov',g1,g2,⟨o,ho,hd⟩,g4⟩:=F.cell n kn
    have hcc:c'≠c:=fun z=>e (F.apart n x c (z▸g1) h1)
    refine ⟨c',ov',g1,g2,⟨o,k1 _ _ hcc ho,hd⟩,fun y hy w q=>?_⟩
    have ey:y≠x:=fun z=>by subst z; exact e hy.symm
    simp only [St.set,if_neg ey] at q
    obtain ⟨mw,e1,e2⟩:=g4 y hy w q
    exact ⟨mw,e1,e2.kept K⟩
end
noncomputable def df (e:Expr):Bool:=match e with
 | .ListComp ..=>true
 | .SetComp ..=>true
 | .DictComp ..=>true
 | _=>false
noncomputable def kf (sc:Scope) (x:String):Bool:=kd sc x == some .local || kd sc x == some .cell
inductive bT (h:Heap) (ρ:List Addr) (N:Addr→Prop):Flow→PySem.Flow→Prop
 | next:bT h ρ N .next .next
 | brk:bT h ρ N .brk .brk
 | cont:bT h ρ N .cont .cont
 | ret {v:V} {mv:Value}:Rel h ρ N v mv→bT h ρ N (.ret v) (.ret mv)
noncomputable def fk (C:Cx) (γ:Gh) (env:Env) (ρ:List Addr) (st:St) (s:Shared) (Q:Flow→St→Prop) (fl:PySem.Flow) (s':Shared):Prop:=
 ∃ f st' ρ',Q f st'∧bT s'.heap ρ' (Nl γ ρ' st'.H) f fl∧Inv C γ ρ' st'.H s'∧Fra γ env st' ρ' s'∧cw (Own env) ρ st.H s ρ' st'.H s'
noncomputable def ci (C:Cx) (γ:Gh) (env:Env) (ρ:List Addr) (st:St) (s:Shared) (X:String→St→Prop) (ev:Value) (s':Shared):Prop:=
 ∃ c st' ρ',X c st'∧(jd C s.heap s' ev c∨pz C s.heap s' ev c)∧Inv C γ ρ' st'.H s'∧Fra γ env st' ρ' s'∧cw (Own env) ρ st.H s ρ' st'.H s'
noncomputable def Top (A:Around) (env:Env):Prop:=∃ l,A.frames=some (env::l)
noncomputable def SS (C:Cx) (k:Nat) (sc:Scope) (x:S) (ps:Stmt):Prop:=∀ (env:Env) (A:Around) (s:Shared) (γ:Gh) (ρ:List Addr) (st:St) (Q:Flow→St→Prop) (X:String→St→Prop),env.scope=sc→bO (2*k+1) A γ→Top A env→Inv C γ ρ st.H s→Fra γ env st ρ s→
 wS (Calls C k) C.glo x st Q X→wpAny C.M A (exec ps env) (fk C γ env ρ st s Q) (ci C γ env ρ st s X) s
noncomputable def SSs (C:Cx) (k:Nat) (sc:Scope) (x:Ss) (pss:List Stmt):Prop:=∀ (env:Env) (A:Around) (s:Shared) (γ:Gh) (ρ:List Addr) (st:St) (Q:Flow→St→Prop) (X:String→St→Prop),env.scope=sc→bO (2*k+1) A γ→Top A env→Inv C γ ρ st.H s→Fra γ env st ρ s→
 wSs (Calls C k) C.glo x st Q X→wpAny C.M A (execs pss env) (fk C γ env ρ st s Q) (ci C γ env ρ st s X) s
section
variable {C:Cx} {k:Nat} {sc:Scope} {γ γ':Gh} {env:Env} {A:Around} {ρ₁:List Addr} {st₁:St} {s₁:Shared} {ρ ρ':List Addr} {st st':St} {s s':Shared} {Q:Flow→St→Prop} {X:String→St→Prop}
theorem fk.step {fl:PySem.Flow} (S:cw (Own env) ρ st.H s ρ' st'.H s') {s'':Shared} (p:fk C γ env ρ' st' s' Q fl s''):fk C γ env ρ st s Q fl s'':=by
 obtain ⟨f,st'',ρ'',h1,h2,h3,h4,h5⟩:=p
 exact ⟨f,st'',ρ'',h1,h2,h3,h4,S.trans h5⟩
theorem cw.back (S:cw (Own env) ρ st.H s ρ' st'.H s') (I:Inv C γ ρ' st'.H s') (F:Fra γ env st' ρ' s') (a:Addr) (h:s'.heap.get? a=none):s.heap.get? a=none:=by
 cases e:s.heap.get? a with
 | none=>rfl
 | some o=>
  exfalso
  by_cases q:Lv ρ st.H a
  ·obtain ⟨i,_,q1,_⟩:=q
   obtain ⟨o',e'⟩:=I.there a (List.mem_of_getElem? (S.pre i a q1))
   rw [h] at e'; cases e'
  ·by_cases w:Own env a
   ·obtain ⟨o',e'⟩:=I.held a (F.own_ghost w)
    rw [h] at e'; cases e'
   ·obtain ⟨o',e',_⟩:=S.keep a o e q w
    rw [h] at e'; cases e'
theorem ci.step {ev:Value} (I:Inv C γ ρ' st'.H s') (F:Fra γ env st' ρ' s') (S:cw (Own env) ρ st.H s ρ' st'.H s') {s'':Shared} (p:ci C γ env ρ' st' s' X ev s''):ci C γ env ρ st s X ev s'':=by
 obtain ⟨f,st'',ρ'',h1,h2,h3,h4,h5⟩:=p
 exact ⟨f,st'',ρ'',h1,h2.imp (·.back (S.back I F)) (·.back (S.back I F)),h3,h4,S.trans h5⟩
theorem bt.frame {ev:Value} (F:Fra γ env st ρ s) (p:bt C γ ρ st s X ev s'):ci C γ env ρ st s X ev s':=by
 obtain ⟨c,st',ρ',h1,h2,h3,h4,h5⟩:=p
 exact ⟨c,st',ρ',h1,.inl h3,h4,F.step h5 h2,h5.w⟩
theorem SE.stm {e:E} {pe:Expr} {W:V→St→Prop} {K:Value→Shared→Prop} (ih:SE C k sc e pe) (hs:env.scope=sc) (hr:bO (2*k+1) A γ) (I:Inv C γ ρ st.H s) (F:Fra γ env st ρ s) (w:wE (Calls C k) C.glo e st W X)
  (h: ∀ mv s' v st' ρ',W v st'→Rel s'.heap ρ' (Nl γ ρ' st'.H) v mv→Inv C γ ρ' st'.H s'→Fra γ env st' ρ' s'→Stp ρ st.H s ρ' st'.H s'→K mv s'):wpAny C.M A (eval pe env) K (ci C γ env ρ st s X) s:=
 wpAny_mono (ih env A s γ ρ st W X hs hr I F w) (fun mv s' p=>by
  obtain ⟨v,st',ρ',h1,h2,h3,h4,h5⟩:=p
  exact h mv s' v st' ρ' h1 h3 h4 (F.step h5 h2) h5) fun _ _ p=>p.frame F
theorem ST.stm {e:E} {pe:Expr} {W:Bool→St→Prop} {K:Bool→Shared→Prop} (ih:ST C k sc e pe) (hs:env.scope=sc) (hr:bO (2*k+1) A γ) (I:Inv C γ ρ st.H s) (F:Fra γ env st ρ s) (w:wT (Calls C k) C.glo e st W X)
  (h: ∀ b s' st' ρ',W b st'→Inv C γ ρ' st'.H s'→Fra γ env st' ρ' s'→Stp ρ st.H s ρ' st'.H s'→K b s'):wpAny C.M A (isTrue pe env (eval pe env)) K (ci C γ env ρ st s X) s:=
 wpAny_mono (ih env A s γ ρ st W X hs hr I F w) (fun mv s' p=>by
  obtain ⟨st',ρ',h1,h2,h4,h5⟩:=p
  exact h mv s' st' ρ' h1 h4 (F.step h5 h2) h5) fun _ _ p=>p.frame F
theorem SSs.at {x:Ss} {pss:List Stmt} (ih:SSs C k sc x pss) (hs:env.scope=sc) (hr:bO (2*k+1) A γ) (ht:Top A env) (I:Inv C γ ρ' st'.H s') (F:Fra γ env st' ρ' s') (S:cw (Own env) ρ st.H s ρ' st'.H s') (w:wSs (Calls C k) C.glo x st' Q X):
  wpAny C.M A (execs pss env) (fk C γ env ρ st s Q) (ci C γ env ρ st s X) s':=
 wpAny_mono (ih env A s' γ ρ' st' Q X hs hr ht I F w) (fun _ _ p=>p.step S) fun _ _ p=>p.step I F S
theorem SE.stmW {ρ₀:List Addr} {st₀:St} {s₀:Shared} {e:E} {pe:Expr} {W:V→St→Prop} {K:Value→Shared→Prop} (ih:SE C k sc e pe) (hs:env.scope=sc) (hr:bO (2*k+1) A γ) (S₀:cw (Own env) ρ₀ st₀.H s₀ ρ st.H s) (I:Inv C γ ρ st.H s) (F:Fra γ env st ρ s) (w:wE (Calls C k) C.glo e st W X)
  (h: ∀ mv s' v st' ρ',W v st'→Rel s'.heap ρ' (Nl γ ρ' st'.H) v mv→Inv C γ ρ' st'.H s'→Fra γ env st' ρ' s'→Stp ρ st.H s ρ' st'.H s'→K mv s'):wpAny C.M A (eval pe env) K (ci C γ env ρ₀ st₀ s₀ X) s:=
 wpAny_mono (ih.stm hs hr I F w h) (fun _ _ x=>x) fun _ _ p=>p.step I F S₀
theorem cT {pe:Expr} {t:Option Expr} {l:Nat} (h:df pe=false):swapsWith pe t l env=pure false:=by
 unfold swapsWith
 cases pe<;>first | rfl | cases h
theorem aC {ps:Stmt}:SS C k sc .stuck ps:=fun _ _ _ _ _ _ _ _ _ _ _ _ _ w=>False.elim w
theorem Ch {e:E} {pe:Expr} {p:Pos} (hc:df pe=false) (he:SE C k sc e pe):SS C k sc (.ex e) (.Expr pe p):=
 fun env A s γ ρ st Q X hs hr ht I F w=>
  wpAny_Expr_any (he.stm hs hr I F w fun mv s₁ v st₁ ρ₁ w₁ r₁ I₁ F₁ S₁=>⟨_,st₁,ρ₁,w₁,.next,I₁,F₁,S₁.w⟩) (by rw [interactive,F.kind]; rfl) (cT hc)
theorem xL {e:E} {pe:Expr} {p:Pos} (he:SE C k sc e pe):SS C k sc (.ret e) (.Return (some pe) p):=
 fun env A s γ ρ st Q X hs hr ht I F w=>wpAny_Return_some (he.stm hs hr I F w fun mv s₁ v st₁ ρ₁ w₁ r₁ I₁ F₁ S₁=>⟨_,st₁,ρ₁,w₁,.ret r₁,I₁,F₁,S₁.w⟩)
theorem uv {p:Pos}:SS C k sc .cont (.Continue p):=fun env A s γ ρ st Q X hs hr ht I F w=>wpAny_Continue ⟨_,st,ρ,w,.cont,I,F,.refl⟩
theorem uu {p:Pos}:SS C k sc .pass (.Pass p):=fun env A s γ ρ st Q X hs hr ht I F w=>wpAny_Pass ⟨_,st,ρ,w,.next,I,F,.refl⟩
theorem xM {c:E} {t f:Ss} {pc:Expr} {pt pf:List Stmt} {p:Pos} (hc:ST C k sc c pc) (hT:SSs C k sc t pt) (hf:SSs C k sc f pf):SS C k sc (.ite c t f) (.If pc pt pf p):=
 fun env A s γ ρ st Q X hs hr ht I F w=>wpAny_If (hc.stm hs hr I F w fun b s₁ st₁ ρ₁ w₁ I₁ F₁ S₁=>by
  rcases w₁ with ⟨rfl,w₁⟩ | ⟨rfl,w₁⟩
  ·exact hT.at hs hr ht I₁ F₁ S₁.w w₁
  ·exact hf.at hs hr ht I₁ F₁ S₁.w w₁)
theorem ut:SSs C k sc .nil []:=fun env A s γ ρ st Q X hs hr ht I F w=>wpAny_execs_nil ⟨_,st,ρ,w,.next,I,F,.refl⟩
theorem sf {x:S} {ss:Ss} {ps:Stmt} {pss:List Stmt} (hx:SS C k sc x ps) (hss:SSs C k sc ss pss):SSs C k sc (.cons x ss) (ps::pss):=by
 intro env A s γ ρ st Q X hs hr ht I F w
 refine wpAny_execs_cons (wpAny_mono (hx env A s γ ρ st _ X hs hr ht I F w) (fun fl s' p=>?_) fun _ _ p=>p)
 obtain ⟨f,st',ρ',h1,h2,h3,h4,h5⟩:=p
 rcases h1 with ⟨rfl,h1⟩ | ⟨ne,h1⟩
 ·cases h2; exact hss.at hs hr ht h3 h4 h5 h1
 ·cases h2 with
  | next=>exact absurd rfl ne
  | brk=>exact ⟨_,st',ρ',h1,.brk,h3,h4,h5⟩
  | cont=>exact ⟨_,st',ρ',h1,.cont,h3,h4,h5⟩
  | ret r=>exact ⟨_,st',ρ',h1,.ret r,h3,h4,h5⟩
end
end
noncomputable section
open PySem PyProof.Rows
section
variable {C:Cx} {k:Nat} {sc:Scope} {γ γ':Gh} {env:Env} {A:Around} {ρ₁:List Addr} {st₁:St} {s₁:Shared} {ρ ρ':List Addr} {st st':St} {s s':Shared} {Q:Flow→St→Prop} {X:String→St→Prop}
theorem Fra.re (F:Fra γ' env st ρ s) (F₁:Fra γ env st₁ ρ₁ s₁) (K:cF s.heap ρ (Nl γ' ρ st.H) s'.heap ρ' (Nl γ ρ' st'.H)) (e:st'.s=st.s)
  (kL: ∀ b o,γ.h b→s.heap.get? b=some o→∃ o',s'.heap.get? b=some o'∧dQ o o') (lv: ∀ b,γ.h b→¬ Lv ρ' st'.H b):Fra γ env st' ρ' s':=by
 obtain ⟨m,hm,hv⟩:=F.ns
 refine ⟨F.kind,F.glob,F.blt,lv _ F₁.own,F₁.own,⟨m,aO hm fun o ho=>kL _ o F₁.own ho,fun x v k kz q=>?_⟩,fun x hk=>?_,F.apart,F₁.nb,F₁.nbc⟩
 ·obtain ⟨mv,e1,e2⟩:=hv x v k kz (e▸q)
  exact ⟨mv,e1,e2.kept K⟩
 ·obtain ⟨c,ov,h1,h2,⟨oc,hoc,hdc⟩,h4⟩:=F.cell x hk
  obtain ⟨c',ov',h1',h2',_⟩:=F₁.cell x hk
  rw [h1] at h1'; cases h1'
  obtain ⟨o',ho',al⟩:=kL c oc h2'.2 hoc
  refine ⟨c,ov,h1,⟨lv _ h2'.2,h2'.2⟩,⟨oc,by rw [ho',al.same fun es n q=>by rw [hdc] at q; cases q],hdc⟩,fun y hy v q=>?_⟩
  obtain ⟨mv,e1,e2⟩:=h4 y hy v (e▸q)
  exact ⟨mv,e1,e2.kept K⟩
theorem Fra.more (F:Fra γ env st ρ s) (I:Inv C γ ρ st.H s) (sub: ∀ b,γ.h b→γ'.h b) (hs: ∀ b,γ'.h b→γ.h b∨s.heap.get? b=none) (hb: ∀ b,γ'.b b→γ.b b):Fra γ' env st ρ s:=
 F.holds I (bP.refl s) sub hs hb
theorem sZ {D Cl:Addr} {acc:List V} {Qv:V→St→Prop} (I₁:Inv C γ ρ₁ st₁.H s₁) (F₁:Fra γ env st₁ ρ₁ s₁) (dD:s₁.heap.get? D=none) (dC:s₁.heap.get? Cl=none) (nDC:D≠Cl) (gD: ¬ γ.h D)
  (J:jE C (G2 γ D Cl) env ρ₁ st₁ s₁ D Cl acc ρ st s) (hl:acc.length≤aA) (w:kS acc st Qv):
  ∃ v st' ρ',Qv v st'∧Rel s.heap ρ' (Nl (eg γ Cl) ρ' st'.H) v (.ref D)∧Inv C (eg γ Cl) ρ' st'.H s∧Fra (eg γ Cl) env st' ρ' s∧Stp ρ₁ st₁.H s₁ ρ' st'.H s:=by
 obtain ⟨ms,hpl,hrl⟩:=J.acc
 have sub: ∀ b,(eg γ Cl).h b→(G2 γ D Cl).h b:=fun b q=>q.imp id .inr
 have nD: ¬ (eg γ Cl).h D:=fun q=>q.elim gD nDC
 have F₁':Fra (eg γ Cl) env st₁ ρ₁ s₁:=F₁.more I₁ (fun _=>.inl) (fun b q=>q.imp id fun e=>by rw [e]; exact dC) fun _ q=>q
 have nl: ¬ Nl (eg γ Cl) ρ st.H D:=fun q=>q.elim (J.inv.ghost_nl (.inr (.inl rfl))) nD
 rcases w with w | w
 ·have K:=dF (s:=s) (ρ:=ρ) (H:=st.H) sub
  exact ⟨_,st,ρ,w,.lst hpl nl hl (hrl.kept K),J.inv.drop sub (fun _ q=>q) (fun _ q=>q) (fun _=>Iff.rfl),J.fra.re F₁' K rfl (fun b o _ e=>⟨o,e,.refl o⟩) fun b q=>J.inv.ghost_nl (sub b q),J.stp⟩
 ·have I':Inv C (eg γ Cl) (ρ++[D]) (st.H++[.list acc]) s:=J.inv.adopt (.inr (.inl rfl)) sub (fun _ q=>q) (fun _ q=>q) (fun _=>Iff.rfl) nD (fun q=>gD (γ.bh _ q)) rfl fun kp=>⟨ms,hpl,hrl.kept kp,hl⟩
  have K:cF s.heap ρ (Nl (G2 γ D Cl) ρ st.H) s.heap (ρ++[D]) (Nl (eg γ Cl) (ρ++[D]) (st.H++[.list acc])):=
   ⟨fun _ x e _=>⟨x,e,.refl x⟩,fun b q=>by
    rcases q with q | q
    ·rcases fI J.inv.len q with q | q
     ·exact .inl (.inl q)
     ·exact .inl (.inr (.inr (.inl q)))
    ·exact .inl (.inr (sub b q)),fun i b e=>by rw [List.getElem?_append_left (List.getElem?_eq_some_iff.mp e).1]; exact e⟩
  refine ⟨_,{ st with H:=st.H++[.list acc]},ρ++[D],w,.loc (by rw [← J.inv.len]; simp),I',J.fra.re F₁' K rfl (fun b o _ e=>⟨o,e,.refl o⟩) fun b q=>I'.ghost_nl q,⟨⟨J.stp.kep.keep,fun b q=>?_,fun i b e=>?_⟩⟩⟩
  ·rcases fI J.inv.len q with q | q
   ·exact J.stp.kep.live b q
   ·exact .inr (q▸dD)
  ·have:=J.stp.kep.pre i b e
   rw [List.getElem?_append_left (List.getElem?_eq_some_iff.mp this).1]; exact this
theorem rM {it:E} {pelt pit:Expr} {x y:String} {px py pos spos:Pos} {ifs:List Expr} {cs:Scope} {f:V→St→(List V→St→Prop)→Prop}
  (hi:SE C k env.scope it pit) (hco:dp cs env.scope x=true) (hset:bE pit=false) (T:wF C A γ cs env x ifs pelt f) (hr:bO (2*k+1) A γ) (I:Inv C γ ρ st.H s) (F:Fra γ env st ρ s)
  (hsw:swapsWith (.ListComp pelt [⟨.Name (x:Str) px,pit,ifs,0⟩] cs pos) (some (.Name (y:Str) py)) spos.line env=pure true) (hy:kd env.scope y=some .local∨kd env.scope y=some .cell)
  (w:wE (Calls C k) C.glo it st (fun vi st=>∃ items,du vi items∧fG f items [] st fun out st=>kS out st fun v st=>Q .next (st.set y v)) X):
  wpAny C.M A (exec (.Assign [.Name (y:Str) py] (.ListComp pelt [⟨.Name (x:Str) px,pit,ifs,0⟩] cs pos) spos) env) (fk C γ env ρ st s Q) (ci C γ env ρ st s X) s:=by
 have hnm:=dK hco
 rw [exec_Assign_Name_used _ _ _ _ hsw]
 refine wpAny_bind (wpAny_standAt (wpAny_bind ?_))
 show wpAny _ A (do let _ ← comprehension (.ListComp pelt [⟨.Name (x:Str) px,pit,ifs,0⟩] cs pos) cs env _ (newList []) false (eval pit env) (some (assign (.Name (y:Str) py) env))) _ _ s
 refine wpAny_bind (wpAny_mono (wpAny_comprehension_free (use:=some (assign (.Name (y:Str) py) env)) (Q:=fun _ s'=>fk C γ env ρ st s Q .next s') rfl (fun v=>de hset v) (hnm.closure F) hnm.kind (fun p hp h=>hnm.loc p hp h)
  (hi.stm rfl hr I F w fun mi s₁ vi st₁ ρ₁ w₁ r₁ I₁ F₁ S₁=>?_)) (fun _ s' hq=>wpAny_pure (wpAny_pure hq)) fun _ _ e=>e)
 obtain ⟨items,e,w₁⟩:=w₁
 refine ed (RR:=fun acc C'=>compPost C.M A (ci C γ env ρ st s X) (some (assign (.Name (y:Str) py) env)) (fun _ s'=>fk C γ env ρ st s Q .next s') acc C') hnm T hr I₁ F₁ (eK hr I₁ r₁ e) w₁ ?_
 intro D Cl acc ρ' st' s' dD dC nDC gD gC J hl w'
 obtain ⟨v,st2,ρ2,hq,hrel,I2,F2,S2⟩:=sZ I₁ F₁ dD dC nDC gD J hl w'
 obtain ⟨m,hm⟩:=J.ns
 show wpAny _ A (assign (.Name (y:Str) py) env (.ref D)) _ _ _
 refine wpAny_assign_Name (wpAny_mono (ft hy I2 F2 hrel) (fun _ s3 p=>?_) fun _ _ e=>e)
 obtain ⟨I3,F3,S3⟩:=p
 have nO: ¬ Own env Cl:=fun q=>gC (F₁.own_ghost q)
 refine ⟨m,aO hm fun o e=>S3.keep _ o e (I2.ghost_nl (.inr rfl)) nO,fun h' hs=>?_⟩
 have k1: ∀ b o,b≠Cl→s3.heap.get? b=some o→h'.get? b=some o:=fun b o hb e=>hs.extBut b o hb e
 refine ⟨.next,st2.set y v,ρ2,hq,.next,I3.lose (.inr rfl) (fun q=>gC (γ.bh _ q)) (fun _=>Iff.rfl) (fun _=>.inl) (fun _ q=>q) (fun _ q=>q) gC k1 rfl rfl,F3.lose F₁ (.inr rfl) (fun _=>.inl) gC k1,?_⟩
 have S13:cw (Own env) ρ₁ st₁.H s₁ ρ2 (st2.set y v).H s3:=(Stp.w S2).trans S3
 exact (Stp.w S₁).trans (S13.touch (.inr dC) k1)
theorem lx {x:String} {e:E} {pe:Expr} {py spos:Pos} (hk:kf env.scope x=true) (hc:swapsWith pe (some (.Name (x:Str) py)) spos.line env=pure false) (he:SE C k env.scope e pe) (hr:bO (2*k+1) A γ) (I:Inv C γ ρ st.H s) (F:Fra γ env st ρ s) (w:wS (Calls C k) C.glo (.asg x e) st Q X):
  wpAny C.M A (exec (.Assign [.Name (x:Str) py] pe spos) env) (fk C γ env ρ st s Q) (ci C γ env ρ st s X) s:=by
 have hk:kd env.scope x=some .local∨kd env.scope x=some .cell:=(Bool.or_eq_true_iff.mp hk).imp beq_iff_eq.mp beq_iff_eq.mp
 exact wpAny_Assign_Name (he.stm rfl hr I F w fun mv s₁ v st₁ ρ₁ w₁ r₁ I₁ F₁ S₁=>wpAny_mono (ft hk I₁ F₁ r₁) (fun _ s₂ p=>⟨.next,_,ρ₁,w₁,.next,p.1,p.2.1,S₁.w.trans p.2.2⟩) fun _ _ x=>x) hc
theorem xO {x:String} {e:E} {pe:Expr} {py spos:Pos} (hk:kf sc x=true) (hc:df pe=false) (he:SE C k sc e pe):SS C k sc (.asg x e) (.Assign [.Name (x:Str) py] pe spos):=by
 rintro env A s γ ρ st Q X rfl hr ht I F w
 exact lx hk (cT hc) he hr I F w
theorem oD {pelt:Expr} {y:String} {gs:List Comprehension} {py pos:Pos} {cs:Scope} {l:Nat}: ∃ b,swapsWith (.ListComp pelt gs cs pos) (some (.Name (y:Str) py)) l env=pure b:=⟨_,rfl⟩
theorem oi {y x:String} {e it:E} {pelt pit:Expr} {px py pos spos:Pos} {ifs:List Expr} {cs:Scope} {f:V→St→(List V→St→Prop)→Prop} (hy:kf env.scope y=true) (hco:dp cs env.scope x=true) (hset:bE pit=false) (hi:SE C k env.scope it pit) (T:wF C A γ cs env x ifs pelt f) (he:SE C k env.scope e (.ListComp pelt [⟨.Name (x:Str) px,pit,ifs,0⟩] cs pos)) (hr:bO (2*k+1) A γ) (I:Inv C γ ρ st.H s) (F:Fra γ env st ρ s)
  (w:wE (Calls C k) C.glo it st (fun vi st=>∃ items,du vi items∧fG f items [] st fun out st=>kS out st fun v st=>Q .next (st.set y v)) X) (w':wS (Calls C k) C.glo (.asg y e) st Q X):
  wpAny C.M A (exec (.Assign [.Name (y:Str) py] (.ListComp pelt [⟨.Name (x:Str) px,pit,ifs,0⟩] cs pos) spos) env) (fk C γ env ρ st s Q) (ci C γ env ρ st s X) s:=by
 obtain ⟨b,hb⟩:=oD (env:=env) (pelt:=pelt) (y:=y) (gs:=[⟨.Name (x:Str) px,pit,ifs,0⟩]) (py:=py) (pos:=pos) (cs:=cs) (l:=spos.line)
 cases b with
 | false=>exact lx hy hb he hr I F w'
 | true=>exact rM hi hco hset T hr I F hb ((Bool.or_eq_true_iff.mp hy).imp beq_iff_eq.mp beq_iff_eq.mp) w
theorem lM {y x:String} {elt it:E} {pelt pit:Expr} {px py pos spos:Pos} {cs:Scope} (hy:kf sc y=true) (hco:dp cs sc x=true) (hset:bE pit=false) (he:SE C k (dy cs sc) elt pelt) (hi:SE C k sc it pit):
  SS C k sc (.asg y (.comp elt x it)) (.Assign [.Name (y:Str) py] (.ListComp pelt [⟨.Name (x:Str) px,pit,[],0⟩] cs pos) spos):=by
 rintro env A s γ ρ st Q X rfl hr ht I F w
 exact oi hy hco hset hi (gU he hr) (uM hco hset he hi) hr I F w w
theorem jS {y x:String} {elt it c:E} {pelt pit pc:Expr} {px py pos spos:Pos} {cs:Scope} (hy:kf sc y=true) (hco:dp cs sc x=true) (hset:bE pit=false) (he:SE C k (dy cs sc) elt pelt) (hi:SE C k sc it pit) (hc:ST C k (dy cs sc) c pc):
  SS C k sc (.asg y (.compIf elt x it c)) (.Assign [.Name (y:Str) py] (.ListComp pelt [⟨.Name (x:Str) px,pit,[pc],0⟩] cs pos) spos):=by
 rintro env A s γ ρ st Q X rfl hr ht I F w
 exact oi hy hco hset hi (gS he hc hr) (kK hco hset he hi hc) hr I F w w
end
end
noncomputable section
open PySem PyProof.Rows
section
variable {prog:Program} {w:World} {A:Around} {E:Value→Shared→Prop} {s:Shared}
end
section
variable {C:Cx} {k:Nat} {sc:Scope} {γ γ':Gh} {env:Env} {A:Around} {ρ₁:List Addr} {st₁:St} {s₁:Shared} {ρ ρ':List Addr} {st st':St} {s s':Shared} {Q:Flow→St→Prop} {X:String→St→Prop} {i:Nat} {a:Addr} {vs:List V}
theorem bT.kept {h h':Heap} {ρ ρ':List Addr} {N N':Addr→Prop} (K:cF h ρ N h' ρ' N') {f:Flow} {fl:PySem.Flow} (r:bT h ρ N f fl):bT h' ρ' N' f fl:=by
 cases r with
 | next=>exact .next
 | brk=>exact .brk
 | cont=>exact .cont
 | ret r=>exact .ret (r.kept K)
theorem ci.none {ev:Value} {s'':Shared} {P:Prop} (p:ci C γ env ρ st s noX ev s''):P:=by
 obtain ⟨_,_,_,h,_⟩:=p; exact h.elim
theorem pU {o i e:E} {po pi pe:Expr} {py p:Pos} (hc:df pe=false) (ho:SE C k sc o po) (hi:SE C k sc i pi) (he:SE C k sc e pe):SS C k sc (.asgSub o i e) (.Assign [.Subscript po pi py] pe p):=by
 intro env A s γ ρ st Q X hs hr ht I F w
 refine wpAny_Assign_Subscript (he.stm hs hr I F w fun mv s₁ v st₁ ρ₁ w₁ r₁ I₁ F₁ S₁=>ho.stmW hs hr S₁.w I₁ F₁ w₁ fun mo s₂ vo st₂ ρ₂ w₂ r₂ I₂ F₂ S₂=>
  hi.stmW hs hr (S₁.trans S₂).w I₂ F₂ w₂ fun mi s₃ vi st₃ ρ₃ w₃ r₃ I₃ F₃ S₃=>?_) (cT hc)
 have rv:=(r₁.kept S₂.kept).kept S₃.kept
 have ro:=r₂.kept S₃.kept
 have S03:=(S₁.trans S₂).trans S₃
 rcases w₃ with ⟨j,kk,kvs,⟨rfl,rfl⟩,hxs,hlt,hQ⟩ | z
 ·obtain ⟨x,rfl,ha⟩:=ro.loc_inv
  obtain ⟨t,rfl,hk1,hk2⟩:=r₃.str_inv
  obtain ⟨ms,hd,hrl,⟨hlen,hm⟩,hks⟩:=I₃.obj j _ _ ha hxs
  refine wpAny_setItem_pairs (strKind_is _ _ (sOf kk) t) hd (fun h' hd' sb=>?_) (by rw [← hrl.length]; exact hlen)
  obtain ⟨I',S'⟩:=I₃.upd (s':={ s₃ with heap:=h',toks:=s₃.toks+1 }) (o':=.dictS (jU kk v kvs)) ha hxs rfl rfl sb.2 (let ⟨o,_,_,ho,_⟩:=hd'; ⟨o,ho⟩) rfl rfl fun kp=>
   ⟨_,hd',(hrl.map fun _ _ q=>q.kept kp).store fq kk (rv.kept kp),⟨Nat.le_trans (lR kk v kvs) (show kvs.length+1≤16777216 by exact lin [_] [(1,.a (.v 0) (.n 1),.n 1000000)] 1 (.a (.v 0) (.n 1)) (.n 16777216) rfl hlt),hm⟩,fun p hp=>(qm hp).elim (fun q=>q▸⟨hk1,hk2⟩) fun ⟨q,q1,q2⟩=>q2▸hks q q1⟩
  exact ⟨.next,_,ρ₃,hQ,.next,I',F₃.step S' rfl,(S03.trans S').w⟩
 ·exact z.elim
theorem oE {o e:E} {x:String} {po pe:Expr} {py p:Pos} (hx:x∈C.ats) (hc:df pe=false) (ho:SE C k sc o po) (he:SE C k sc e pe):SS C k sc (.asgAttr o x e) (.Assign [.Attribute po (x:Str) py] pe p):=by
 intro env A s γ ρ st Q X hs hr ht I F w
 refine plainObj_wpAny_Assign_Attribute (he.stm hs hr I F w fun mv s₁ v st₁ ρ₁ w₁ r₁ I₁ F₁ S₁=>ho.stmW hs hr S₁.w I₁ F₁ w₁ fun mo s₂ vo st₂ ρ₂ w₂ r₂ I₂ F₂ S₂=>?_) (cT hc)
 obtain ⟨j,fs,hob,hl,hQ⟩:=w₂
 exact kN hx I₂ r₂ (r₁.kept S₂.kept) hob hl fun s' I' S'=>⟨.next,_,ρ₂,hQ,.next,I',F₂.step S' rfl,((S₁.trans S₂).trans S').w⟩
theorem qR {x:String} {b:Ss} {pb:List Stmt} {py:Pos} {items:List V} {R:Result→Shared→Prop} (hb:SSs C k sc b pb) (hs:env.scope=sc) (hk:kd env.scope x=some .local∨kd env.scope x=some .cell) (hr:bO (2*k+1) A γ) (ht:Top A env) (I₁:Inv C γ ρ₁ st₁.H s₁) (F₁:Fra γ env st₁ ρ₁ s₁)
  {itv:Value} {s₂:Shared} (h:gN C A (Off γ ρ₁ st₁.H) (Nl γ ρ₁ st₁.H) ρ₁ s₁ items itv s₂) (w₁:sW (fun v st Q=>wSs (Calls C k) C.glo b (st.set x v) Q noX) items st₁ Q)
  (hR: ∀ f s',fk C γ env ρ₁ st₁ s₁ Q f s'→R (.ok f) s'):codeAny C.M A (.forLoop (.Name (x:Str) py) itv pb [] env) R s₂:=by
 obtain ⟨J,fp,P,St',rfl,dJ,g,hst,itr⟩:=h
 have W:=itr.walks
 have gJ: ¬ γ.h J:=I₁.ghost_new dJ
 have nO: ¬ Own env J:=fun q=>gJ (F₁.own_ghost q)
 have stk: ∀ {i:Nat} {ρ ρ':List Addr} {st st':St} {s s':Shared},Inv C (eg γ J) ρ st.H s→cw (Own env) ρ₁ st₁.H s₁ ρ st.H s→cw (Own env) ρ st.H s ρ' st'.H s'→St' i s.heap→St' i s'.heap:=fun {i ρ ρ' st st' s s'} I S S' q=>by
  refine W.frame _ _ _ q fun y hy o e=>?_
  rcases itr.fp y hy with rfl | ⟨hn,o₁,h1,h2⟩
  ·obtain ⟨o',e',hd⟩:=itr.has _ _ q
   rw [e] at e'; cases e'
   exact S'.same e (I.ghost_nl (.inr rfl)) nO hd
  ·have hl: ¬ Lv ρ₁ st₁.H y:=fun z=>hn (.inl z)
   have no: ¬ Own env y:=fun z=>hn (.inr ⟨F₁.own_ghost z,F₁.own_nb z⟩)
   have e1:=S.same h1 hl no h2
   rw [e] at e1; cases e1
   exact S'.same e (S.notLive h1 hl no) no h2
 have keptf: ∀ {ρ:List Addr} {st:St} {s:Shared},cw (Own env) ρ₁ st₁.H s₁ ρ st.H s→Inv C (eg γ J) ρ st.H s→cF s₁.heap ρ₁ (Nl γ ρ₁ st₁.H) s.heap ρ (Nl (eg γ J) ρ st.H):=fun S I=>
  ⟨fun a o e n=>S.keep a o e (fun q=>n (.inl q)) fun q=>n (.inr (F₁.own_ghost q)),fun a q=>by
   rcases q with q | q | q
   ·by_cases ho:Own env a
    ·exact .inl (.inr (F₁.own_ghost ho))
    ·exact (S.live a ho q).imp .inl id
   ·exact .inl (.inr q)
   ·exact .inr (q▸dJ),S.pre⟩
 have eJ: ∃ o,s₂.heap.get? J=some o:=let ⟨o,e,_⟩:=itr.has _ _ hst; ⟨o,e⟩
 have I2:Inv C (eg γ J) ρ₁ st₁.H s₂:=I₁.hold g dJ eJ
 have F2:Fra (eg γ J) env st₁ ρ₁ s₂:=F₁.hold I₁ g dJ
 refine codeAny_forLoop (fun n s'=>∃ i ρ' st',n=items.length+1 - i∧i≤items.length∧Inv C (eg γ J) ρ' st'.H s'∧Fra (eg γ J) env st' ρ' s'∧cw (Own env) ρ₁ st₁.H s₁ ρ' st'.H s'∧St' i s'.heap∧
  sW (fun v st Q=>wSs (Calls C k) C.glo b (st.set x v) Q noX) (items.drop i) st' Q) ?_ (items.length+1) ⟨0,ρ₁,st₁,rfl,Nat.zero_le _,I2,F2,g.stp.w,hst,w₁⟩ (by intro _; rfl)
 rintro n s' ⟨i,ρ',st',rfl,hi,I',F',S',hst',w'⟩
 by_cases hlt:i < items.length
 ·have hdrop:items.drop i=items[i]::items.drop (i+1):=List.drop_eq_getElem_cons hlt
  rw [hdrop] at w'
  have hv:items[i]?= some items[i]:=List.getElem?_eq_getElem hlt
  generalize items[i]=v at w' hv
  have w':wSs (Calls C k) C.glo b (st'.set x v) (wg Q fun st'=>sW (fun v st Q=>wSs (Calls C k) C.glo b (st.set x v) Q noX) (items.drop (i+1)) st' Q) noX:=w'
  refine W.item i _ _ _ hlt hst' fun mv h₁ tk₁ hPv hst₁ hk₁=>?_
  have k1: ∀ b o,b≠J→s'.heap.get? b=some o→h₁.get? b=some o:=fun b o hb e=>hk₁ b o (by simpa using hb) e
  have I1:Inv C (eg γ J) ρ' st'.H ({ s' with heap:=h₁,toks:=tk₁ }:Shared):=I'.touch (a:=J) (.inr rfl) (fun q=>gJ (γ.bh _ q)) (fun q=>(gJ (γ.fh _ q)).elim) k1 (let ⟨o,e,_⟩:=itr.has _ _ hst₁; ⟨o,e⟩) rfl rfl
  have F1:Fra (eg γ J) env st' ρ' ({ s' with heap:=h₁,toks:=tk₁ }:Shared):=F'.touch F₁ (.inr rfl) gJ k1
  have S1:cw (Own env) ρ₁ st₁.H s₁ ρ' st'.H ({ s' with heap:=h₁,toks:=tk₁ }:Shared):=S'.touch (.inr dJ) k1
  have rv:Rel h₁ ρ' (Nl (eg γ J) ρ' st'.H) v mv:=(itr.rel i v mv hv hPv).kept (keptf S1 I1)
  refine wpAny_assign_Name (wpAny_mono (ft hk I1 F1 rv) (fun _ s3 p=>?_) fun _ _ e=>e)
  obtain ⟨I3,F3,S3⟩:=p
  have hst3:St' (i+1) s3.heap:=stk I1 S1 S3 hst₁
  have S13:cw (Own env) ρ₁ st₁.H s₁ ρ' (st'.set x v).H s3:=S1.trans S3
  refine wpAny_mono (hb env A s3 (eg γ J) ρ' (st'.set x v) _ _ hs (hr.more (fun _ q=>q) fun _ q=>q) ht I3 F3 w') (fun fl s4 p=>?_) fun _ _ p=>p.none
  obtain ⟨f,st4,ρ4,h1,h2,h3,h4,h5⟩:=p
  have hst4:St' (i+1) s4.heap:=stk I3 S13 h5 hst3
  have S14:=S13.trans h5
  have fin: ∀ {ff:Flow} {ffl:PySem.Flow},Q ff st4→bT s4.heap ρ4 (Nl (eg γ J) ρ4 st4.H) ff ffl→fk C γ env ρ₁ st₁ s₁ Q ffl s4:=fun q1 q2=>
   have Kl:=dF (γ:=γ) (γ':=eg γ J) (s:=s4) (ρ:=ρ4) (H:=st4.H) fun _=>.inl
   ⟨_,st4,ρ4,q1,q2.kept Kl,h3.drop (fun _=>.inl) (fun _ q=>q) (fun _ q=>q) (fun _=>Iff.rfl),h4.re F₁ Kl rfl (fun b o _ e=>⟨o,e,.refl o⟩) fun b q=>h3.ghost_nl (.inl q),S14⟩
  have go:sW (fun v st Q=>wSs (Calls C k) C.glo b (st.set x v) Q noX) (items.drop (i+1)) st4 Q→∃ m,m < items.length+1 - i∧∃ i ρ' st',m=items.length+1 - i∧i≤items.length∧Inv C (eg γ J) ρ' st'.H s4∧Fra (eg γ J) env st' ρ' s4∧cw (Own env) ρ₁ st₁.H s₁ ρ' st'.H s4∧St' i s4.heap∧sW (fun v st Q=>wSs (Calls C k) C.glo b (st.set x v) Q noX) (items.drop i) st' Q:=fun h=>
   ⟨_,Nat.sub_lt_sub_left (Nat.lt_succ_of_lt hlt) (Nat.lt_succ_self i),i+1,ρ4,st4,rfl,hlt,h3,h4,S14,hst4,h⟩
  rcases h1 with ⟨rfl,h1⟩ | ⟨rfl,h1⟩ | ⟨rfl,h1⟩ | ⟨v,rfl,h1⟩
  ·cases h2; exact go h1
  ·cases h2; exact go h1
  ·cases h2; exact hR _ _ (fin h1 .next)
  ·cases h2 with
   | ret r=>exact hR _ _ (fin h1 (.ret r))
 ·have hin:i=items.length:=Nat.le_antisymm hi (Nat.le_of_not_lt hlt)
  subst hin
  rw [List.drop_length] at w'
  refine W.done _ _ _ hst' fun h₁ tk₁ hk₁=>?_
  have k1: ∀ b o,b≠J→s'.heap.get? b=some o→h₁.get? b=some o:=fun b o hb e=>hk₁ b o (by simpa using hb) e
  refine wpAny_execs_nil (hR _ _ ⟨.next,st',ρ',w',.next,I'.lose (a:=J) (.inr rfl) (fun q=>gJ (γ.bh _ q)) (fun _=>Iff.rfl) (fun _=>.inl) (fun _ q=>q) (fun _ q=>q) gJ k1 rfl rfl,F'.lose F₁ (.inr rfl) (fun _=>.inl) gJ k1,S'.touch (.inr dJ) k1⟩)
theorem xN {x:String} {it:E} {b:Ss} {pit:Expr} {pb:List Stmt} {py p:Pos} (hk:kf sc x=true) (hset:bE pit=false) (hi:SE C k sc it pit) (hb:SSs C k sc b pb):SS C k sc (.for_ x it b) (.For (.Name (x:Str) py) pit pb [] p):=by
 rintro env A s γ ρ st Q X rfl hr ht I F w
 have hk:kd env.scope x=some .local∨kd env.scope x=some .cell:=(Bool.or_eq_true_iff.mp hk).imp beq_iff_eq.mp beq_iff_eq.mp
 refine wpAny_For (hi.stm rfl hr I F w fun mi s₁ vi st₁ ρ₁ w₁ r₁ I₁ F₁ S₁=>?_) (fun v=>de hset v)
 rcases w₁ with ⟨items,e,w₁⟩ | w₁
 ·exact wpAny_mono (eK hr I₁ r₁ e) (fun itv s₂ h=>qR hb rfl hk hr ht I₁ F₁ h w₁ fun f s' p=>p.step S₁.w) fun _ _ x=>x
 ·exact w₁.elim
theorem xJ {c:E} {b:Ss} {pc:Expr} {pb:List Stmt} {p:Pos} (hc:ST C k sc c pc) (hb:SSs C k sc b pb):SS C k sc (.whl c b) (.While pc pb [] p):=by
 rintro env A s γ ρ st Q X hs hr ht I F ⟨n,w⟩
 refine wpAny_While (codeAny_whileLoop (fun m s'=>∃ ρ' st',Inv C γ ρ' st'.H s'∧Fra γ env st' ρ' s'∧cw (Own env) ρ st.H s ρ' st'.H s'∧
  mZ (fun st Q=>wT (Calls C k) C.glo c st Q noX) (fun st Q=>wSs (Calls C k) C.glo b st Q noX) m st' Q) ?_ n ⟨ρ,st,I,F,.refl,w⟩)
 rintro m s' ⟨ρ',st',I',F',S',w'⟩
 cases m with
 | zero=>exact False.elim w'
 | succ m=>
  refine wpAny_mono (hc env A s' γ ρ' st' _ _ hs hr I' F' w') (fun bb s₁ p=>?_) fun _ _ p=>(p.frame F').none
  obtain ⟨st₁,ρ₁,w₁,e₁,I₁,S₁⟩:=p
  have F₁:Fra γ env st₁ ρ₁ s₁:=F'.step S₁ e₁
  have S01:=S'.trans (Stp.w S₁)
  rcases w₁ with ⟨rfl,w₁⟩ | ⟨rfl,w₁⟩
  ·refine wpAny_mono (hb env A s₁ γ ρ₁ st₁ _ _ hs hr ht I₁ F₁ w₁) (fun fl s₂ p=>?_) fun _ _ p=>p.none
   obtain ⟨f,st₂,ρ₂,h1,h2,h3,h4,h5⟩:=p
   have S02:=S01.trans h5
   rcases h1 with ⟨rfl,h1⟩ | ⟨rfl,h1⟩ | ⟨rfl,h1⟩ | ⟨v,rfl,h1⟩
   ·cases h2; exact ⟨m,Nat.lt_succ_self m,ρ₂,st₂,h3,h4,S02,h1⟩
   ·cases h2; exact ⟨m,Nat.lt_succ_self m,ρ₂,st₂,h3,h4,S02,h1⟩
   ·cases h2; exact ⟨.next,st₂,ρ₂,h1,.next,h3,h4,S02⟩
   ·cases h2 with
    | ret r=>exact ⟨_,st₂,ρ₂,h1,.ret r,h3,h4,S02⟩
  ·exact wpAny_execs_nil ⟨.next,st₁,ρ₁,w₁,.next,I₁,F₁,S01⟩
end
end
noncomputable section
open PySem PyProof.Rows PySem.W
noncomputable def jD (γ:Gh) (e T:Addr) (h h':Heap):Prop:=(∀ a o,h.get? a=some o→a≠e→a≠T→∃ o',h'.get? a=some o'∧dQ o o'∧(¬ γ.f a→o'=o))∧∀ a o,h.get? a=some o→∃ o',h'.get? a=some o'
noncomputable def Exo (h:Heap) (a:Addr):Prop:=∀ o,h.get? a=some o→(∃ vs,o.data=.fields vs)∧o.cls≠.type "range"
theorem iQ.exo {h:Heap} {e T cls:Addr} {fl:Value} (x:iQ h e T cls fl):Exo h e∧Exo h T:=by
 obtain ⟨oe,vs,oT,ts,he,⟨hc,hdi,hd⟩,⟨h1,h2⟩,hTe,hT,hcT,hdT,h3⟩:=x
 refine ⟨fun o q=>?_,fun o q=>?_⟩
 ·rw [he] at q; cases q; exact ⟨⟨_,hd⟩,by rw [hc]; exact fun z=>Value.noConfusion z⟩
 ·rw [hT] at q; cases q; exact ⟨⟨_,hdT⟩,by rw [hcT]; decide⟩
theorem qU {h:Heap} {e cls t:Addr} (he:h.get? e=some { cls:=.ref cls,data:=.fields #[.ref t,.none,.none,.none,.bool false,.none]}):Exo h e:=fun o q=>by
 rw [he] at q; cases q; exact ⟨⟨_,rfl⟩,fun z=>Value.noConfusion z⟩
noncomputable def lz (γ:Gh) (h:Heap):Prop:=∀ a,γ.f a→∃ o es n,h.get? a=some o∧o.data=.dict es n
noncomputable def rN (γ:Gh) (l:List Env):Prop:=∀ env∈l,env.scope.kind≠.module∧∃ L,env.frame=some L∧γ.f L
section
variable {γ:Gh} {M:Model} {A:Around} {E:Value→Shared→Prop} {s:Shared}
theorem jD.trans {e T T':Addr} {h h' h'':Heap} (x:jD γ e T h h') (y:jD γ e T' h' h'') (hT:T'=T∨h.get? T'=none):jD γ e T h h'':=⟨fun a o ho ne nT=>by
 obtain ⟨o',h1,h2,h3⟩:=x.1 a o ho ne nT
 obtain ⟨o'',q1,q2,q3⟩:=y.1 a o' h1 ne fun z=>by
  rcases hT with q | q
  ·exact nT (z.trans q)
  ·rw [z,q] at ho; cases ho
 exact ⟨o'',q1,h2.trans q2,fun z=>(q3 z).trans (h3 z)⟩,fun a o q=>let ⟨o',q'⟩:=x.2 a o q; y.2 a o' q'⟩
theorem dQ.dict {o o':Obj} (x:dQ o o') {es:Array DictEntry} {n:Nat} (h:o.data=.dict es n):o'.data=.dict es n:=by
 rcases x with rfl | ⟨_,_,_,_,rfl⟩
 ·exact h
 ·exact h
theorem lz.slip {e T:Addr} {h h':Heap} (d:lz γ h) (x:jD γ e T h h') (he: ¬ γ.f e) (hT: ¬ γ.f T):lz γ h':=fun a q=>by
 obtain ⟨o,es,n,h1,h2⟩:=d a q
 obtain ⟨o',q1,q2,_⟩:=x.1 a o h1 (fun z=>he (z▸q)) fun z=>hT (z▸q)
 exact ⟨o',es,n,q1,q2.dict h2⟩
theorem lg {h:Heap} (d:lz γ h) {as:List Addr}: ∀ {l:List Env},rN γ l→(∀ env∈l,∀ L,env.frame=some L→L∈as)→h.FunFrames (hideAll h as) l
 | [],_,_=>trivial
 | env::l,hs,ha=>by
  obtain ⟨hk,L,hf,hL⟩:=hs env List.mem_cons_self
  obtain ⟨o,es,n,ho,hd⟩:=d L hL
  exact ⟨hk,⟨L,o,hf,hideAll_none as (ha env List.mem_cons_self L hf),ho,fun vs q=>by rw [hd] at q; cases q⟩,lg d (fun e he=>hs e (List.mem_cons_of_mem _ he)) fun e he=>ha e (List.mem_cons_of_mem _ he)⟩
theorem jn {env:Env} {l:List Env} {L e cls:Addr} {oe:Obj} {vs:Array Value} {head:Value} {hadNext:Bool} {Q:Unit→Shared→Prop} (hfr:A.frames=some (env::l)) (hf:env.frame=some L) (hs:rN γ (env::l)) (d:lz γ s.heap)
  (he:s.heap.get? e=some oe) (hc:oe.cls=.ref cls∧oe.dict=none) (hd:oe.data=.fields vs) (hsz:1 < vs.size) (h2:vs[2]?= some .none)
  (h: ∀ h' T,s.heap.get? T=none→jD γ e T s.heap h'→iQ h' e T cls (rawInt L)→Q () { s with heap:=h' }):
  wpAny M A (do let a ← frameOf env; let pl ← entryPlaceOf L hadNext; let b ← EntryCells.newEntry head a .none (rawInt L) .none pl; setField (.ref e) 1 b) Q E s:=by
 have hin: ∀ b,b∈(env::l).filterMap (·.frame)→γ.f b:=fun b hm=>by
  obtain ⟨en,hen,q⟩:=List.mem_filterMap.mp hm
  obtain ⟨_,L',q1,q2⟩:=hs en hen
  rw [q] at q1; cases q1; exact q2
 have hene:e ∉ (env::l).filterMap (·.frame):=fun hm=>by
  obtain ⟨o,es,n,q1,q2⟩:=d e (hin e hm)
  rw [he] at q1; cases q1; rw [hd] at q2; cases q2
 refine wpAny_bind (wpAny_frameOf_fun hfr (lg d hs fun en hen L hL=>List.mem_filterMap.mpr ⟨en,hen,hL⟩) hf fun h₁ hs₁=>?_)
 refine wpAny_bind (wpAny_entryPlaceOf fun pl hpl=>?_)
 unfold EntryCells.newEntry newFields
 refine wpAny_bind (wpAny_newObj_type ?_ (hpl.sizeOk5 _ _ _ _ _))
 have he₁:h₁.get? e=some oe:=(hs₁.2.1 e hene).trans he
 have he₂:=Heap.get?_push_of_some (h:=h₁) { cls:=.type "traceback",dict:=none,data:=.fields ([head,.ref L,.none,rawInt L,.none]++(if pl.isEmpty then List.replicate 6 Value.none else pl)).toArray } he₁
 refine wpAny_setField he₂ hd hsz ?_
 have hTe:h₁.objs.size≠e:=Nat.ne_of_gt (Heap.lt_size he₁)
 have hd₃:=Obj.data_mapFields hd (·.setIfInBounds 1 (Value.ref h₁.objs.size))
 have he₃:=Heap.get?_update_self (Obj.mapFields (·.setIfInBounds 1 (Value.ref h₁.objs.size))) he₂ (Obj.isFreed_of_fields hd₃)
 have hT₃:=(Heap.get?_update_other (h₁.push { cls:=.type "traceback",dict:=none,data:=.fields ([head,.ref L,.none,rawInt L,.none]++(if pl.isEmpty then List.replicate 6 Value.none else pl)).toArray })
  (Obj.mapFields (·.setIfInBounds 1 (Value.ref h₁.objs.size))) (Ne.symm hTe)).trans (Heap.get?_push_size h₁ rfl)
 refine h _ h₁.objs.size ?_ ⟨fun a o ho ne nT=>?_,fun a o ho=>?_⟩ ⟨_,_,_,_,he₃,⟨(Obj.cls_mapFields _ _).trans hc.1,?_,hd₃⟩,⟨by simp [hsz],by rw [Array.getElem?_setIfInBounds_ne (by decide)]; exact h2⟩,hTe,hT₃,rfl,rfl,by first | (simp; done) | (rcases hpl with rfl | ⟨_,_,_,_,_,_,_,rfl⟩<;>simp)⟩
 ·cases q:s.heap.get? h₁.objs.size with
  | none=>rfl
  | some o=>
   obtain ⟨sl,z⟩:=hs₁.2.2 _ o q
   rw [aN] at z; cases z
 ·rw [Heap.get?_update_other _ _ (Ne.symm ne)]
  by_cases hm:a∈(env::l).filterMap (·.frame)
  ·obtain ⟨sl,z⟩:=hs₁.2.2 a o ho
   obtain ⟨o',es,n,q1,q2⟩:=d a (hin a hm)
   rw [ho] at q1; cases q1
   exact ⟨_,Heap.get?_push_of_some _ z,.inr ⟨es,n,sl,q2,rfl⟩,fun z=>absurd (hin a hm) z⟩
  ·exact ⟨o,Heap.get?_push_of_some _ ((hs₁.2.1 a hm).trans ho),.refl o,fun _=>rfl⟩
 ·by_cases ne:a=e
  ·subst ne; exact ⟨_,he₃⟩
  ·rw [Heap.get?_update_other _ _ (Ne.symm ne)]
   obtain ⟨sl,z⟩:=hs₁.2.2 a o ho
   exact ⟨_,Heap.get?_push_of_some _ z⟩
 ·show (Obj.mapFields _ oe).dict=none
  rw [← hc.2]; obtain ⟨c,di,da,sl⟩:=oe; simp only at hd; subst hd; rfl
theorem sM {env:Env} {l:List Env} {L e T cls:Addr} {Q:Unit→Shared→Prop} (hfr:A.frames=some (env::l)) (hf:env.frame=some L) (hs:rN γ (env::l)) (d:lz γ s.heap) (x:iQ s.heap e T cls .none)
  (h: ∀ h' T',s.heap.get? T'=none→jD γ e T s.heap h'→iQ h' e T' cls (rawInt L)→Q () { s with heap:=h' }):wpAny M A (noteFrame (.ref e) env) Q E s:=by
 obtain ⟨oe,vs,oT,ts,he,⟨hc,hdi,hd⟩,⟨h1,h2⟩,hTe,hT,hcT,hdT,h3⟩:=x
 unfold noteFrame
 simp only [hf]
 refine wpAny_bind (wpAny_field he hd h1 ?_)
 rw [if_pos (show (Value.ref T != Value.none)=true from by simp)]
 refine wpAny_bind (wpAny_field hT hdT h3 ?_)
 rw [if_neg (show ¬ ((Value.none == rawInt L)=true) from by simp [rawInt])]
 refine wpAny_bind (wpAny_setField hT hdT (Array.getElem?_eq_some_iff.mp h3).1 ?_)
 have other: ∀ b,b≠T→(s.heap.update T (Obj.mapFields (·.setIfInBounds 3 Value.none))).get? b=s.heap.get? b:=fun b hb=>Heap.get?_update_other _ _ (Ne.symm hb)
 have sl:jD γ e T s.heap (s.heap.update T (Obj.mapFields (·.setIfInBounds 3 Value.none))):=⟨fun a o ho _ nT=>⟨o,(other a nT).trans ho,.refl o,fun _=>rfl⟩,fun a o ho=>by
  by_cases q:a=T
  ·subst q; exact ⟨_,Heap.get?_update_self _ hT (Obj.isFreed_of_fields (Obj.data_mapFields hdT _))⟩
  ·exact ⟨o,(other a q).trans ho⟩⟩
 have hfe: ¬ γ.f e:=fun q=>by obtain ⟨o,es,n,q1,q2⟩:=d e q; rw [he] at q1; cases q1; rw [hd] at q2; cases q2
 have hfT: ¬ γ.f T:=fun q=>by obtain ⟨o,es,n,q1,q2⟩:=d T q; rw [hT] at q1; cases q1; rw [hdT] at q2; cases q2
 refine jn (s:={ s with heap:=s.heap.update T (Obj.mapFields (·.setIfInBounds 3 Value.none))}) hfr hf hs (d.slip sl hfe hfT) ((other e (Ne.symm hTe)).trans he) ⟨hc,hdi⟩ hd (Array.getElem?_eq_some_iff.mp h1).1 h2 fun h' T' hn sl' x'=>?_
 have hT':s.heap.get? T'=none:=by
  by_cases q:T'=T
  ·subst q
   have:=Heap.get?_update_self (Obj.mapFields (·.setIfInBounds 3 Value.none)) hT (Obj.isFreed_of_fields (Obj.data_mapFields hdT _))
   rw [show (s.heap.update T' (Obj.mapFields (·.setIfInBounds 3 Value.none))).get? T'=none from hn] at this; cases this
  ·rw [← other T' q]; exact hn
 exact h h' T' hT' (sl.trans sl' (.inr hT')) x'
theorem sL {env:Env} {l:List Env} {L e cls t:Addr} {Q:Unit→Shared→Prop} (hfr:A.frames=some (env::l)) (hf:env.frame=some L) (hs:rN γ (env::l)) (d:lz γ s.heap) (he:s.heap.get? e=some { cls:=.ref cls,data:=.fields #[.ref t,.none,.none,.none,.bool false,.none]})
  (h: ∀ h' T',s.heap.get? T'=none→jD γ e e s.heap h'→iQ h' e T' cls (rawInt L)→Q () { s with heap:=h' }):wpAny M A (noteFrame (.ref e) env) Q E s:=by
 unfold noteFrame
 simp only [hf]
 refine wpAny_bind (wpAny_field he rfl (x:=.none) rfl ?_)
 rw [if_neg (by decide)]
 exact jn hfr hf hs d he ⟨rfl,rfl⟩ rfl (by simp) rfl fun h' T hn sl x=>h h' T hn ⟨fun a o ho ne _=>sl.1 a o ho ne (fun z=>by rw [z,hn] at ho; cases ho),sl.2⟩ x
theorem fD {e T cls:Addr} {fl:Value} {Q:Unit→Shared→Prop} (x:iQ s.heap e T cls fl) (h: ∀ h',jD γ e T s.heap h'→iQ h' e T cls .none→Q () { s with heap:=h' }):wpAny M A (setFlight (.ref e) none) Q E s:=by
 obtain ⟨oe,vs,oT,ts,he,⟨hc,hdi,hd⟩,⟨h1,h2⟩,hTe,hT,hcT,hdT,h3⟩:=x
 have other: ∀ b,b≠T→(s.heap.update T (Obj.mapFields (·.setIfInBounds 3 ((none:Option Addr).elim Value.none fun f=>rawInt f)))).get? b=s.heap.get? b:=fun b hb=>Heap.get?_update_other _ _ (Ne.symm hb)
 unfold setFlight
 refine wpAny_bind (wpAny_field he hd h1 ?_)
 rw [if_pos (show (Value.ref T != Value.none)=true from by simp)]
 refine wpAny_setField hT hdT (Array.getElem?_eq_some_iff.mp h3).1 (h _ ⟨fun a o ho _ nT=>⟨o,(other a nT).trans ho,.refl o,fun _=>rfl⟩,fun a o ho=>by
  by_cases q:a=T
  ·subst q; exact ⟨_,Heap.get?_update_self _ hT (Obj.isFreed_of_fields (Obj.data_mapFields hdT _))⟩
  ·exact ⟨o,(other a q).trans ho⟩⟩ ?_)
 exact ⟨oe,vs,_,_,(other e (Ne.symm hTe)).trans he,⟨hc,hdi,hd⟩,⟨h1,h2⟩,hTe,Heap.get?_update_self _ hT (Obj.isFreed_of_fields (Obj.data_mapFields hdT _)),(Obj.cls_mapFields _ _).trans hcT,Obj.data_mapFields hdT _,by simp [(Array.getElem?_eq_some_iff.mp h3).1]⟩
theorem zp {C:Cx} {env:Env} {l:List Env} {L:Addr} {b:Heap} {ev:Value} {c:String} {Q:Unit→Shared→Prop} (hfr:A.frames=some (env::l)) (hf:env.frame=some L) (hl:rN γ (env::l)) (d:lz γ s.heap)
  (hb: ∀ a o,b.get? a=some o→∃ o',s.heap.get? a=some o') (x:jd C b s ev c∨pz C b s ev c)
  (h: ∀ h' e T,ev=.ref e→b.get? e=none→b.get? T=none→(Exo s.heap e∧Exo s.heap T)→jD γ e T s.heap h'→jd C b { s with heap:=h' } ev c→Q () { s with heap:=h' }):wpAny M A (noteFrame ev env) (fun _ s₁=>wpAny M A (setFlight ev none) Q E s₁) E s:=by
 have up: ∀ a,s.heap.get? a=none→b.get? a=none:=fun a q=>by
  cases e:b.get? a with
  | none=>rfl
  | some o=>obtain ⟨o',z⟩:=hb a o e; rw [q] at z; cases z
 rcases x with ⟨e,cls,T,rfl,hc,he,hT,x⟩ | ⟨e,cls,t,rfl,hc,he,ho⟩
 ·refine sM hfr hf hl d x fun h' T' hn sl x'=>fD (γ:=γ) (s:={ s with heap:=h' }) x' fun h'' sl' x''=>?_
  exact h h'' e T rfl he hT x.exo (sl.trans sl' (.inr hn)) ⟨e,cls,T',rfl,hc,he,up _ hn,x''⟩
 ·refine sL hfr hf hl d ho fun h' T' hn sl x'=>fD (γ:=γ) (s:={ s with heap:=h' }) x' fun h'' sl' x''=>?_
  exact h h'' e e rfl he he ⟨qU ho,qU ho⟩ (sl.trans sl' (.inr hn)) ⟨e,cls,T',rfl,hc,he,up _ hn,x''⟩
end
section
variable {γ:Gh} {C:Cx} {e T:Addr} {h h':Heap} {ρ ρ':List Addr} {N:Addr→Prop} {H H':List HO} {s s₁:Shared} {W:Addr→Prop} {env:Env} {st:St} {k:Nat} {A:Around} {sc:Scope}
theorem jD.at (sl:jD γ e T h h') (x:Exo h e∧Exo h T) {a:Addr} {o:Obj} (ha:h.get? a=some o) (no:(∀ vs,o.data≠.fields vs)∨o.cls=.type "range"): ∃ o',h'.get? a=some o'∧dQ o o'∧(¬ γ.f a→o'=o):=by
 have key: ∀ b,Exo h b→a≠b:=fun b q z=>by
  subst z
  obtain ⟨⟨vs,q1⟩,q2⟩:=q o ha
  rcases no with n | n
  ·exact n vs q1
  ·exact q2 n
 exact sl.1 a o ha (key e x.1) (key T x.2)
theorem jD.same (sl:jD γ e T h h') (x:Exo h e∧Exo h T) {a:Addr} {o:Obj} (ha:h.get? a=some o) (no:(∀ vs,o.data≠.fields vs)∨o.cls=.type "range") (nd: ∀ es n,o.data≠.dict es n):h'.get? a=some o:=by
 obtain ⟨o',q1,q2,_⟩:=sl.at x ha no
 rw [q1,q2.same nd]
theorem Rel.slip2 (sl:jD γ e T h h') (x:Exo h e∧Exo h T):(∀ {v:V} {m:Value},Rel h ρ N v m→Rel h' ρ N v m)∧∀ {vs:List V} {ms:List Value},aR h ρ N vs ms→aR h' ρ N vs ms:=
 Rel.both .none .bool .int .str (fun ⟨o,ho,hc,n,hd⟩ hn hl r=>.tup ⟨o,sl.same x ho (.inl fun vs q=>by rw [hd] at q; cases q) (fun es n' q=>by rw [hd] at q; cases q),hc,n,hd⟩ hn hl r)
  (fun ⟨n,ho⟩ hn hl r=>.lst ⟨n,sl.same x ho (.inl fun vs q=>by cases q) (fun es n' q=>by cases q)⟩ hn hl r) (fun hr hn=>.rng (sl.same x hr (.inr rfl) (fun es n' q=>by cases q)) hn) (fun q=>.loc q) .nil .cons
theorem Rel.slip (sl:jD γ e T h h') (x:Exo h e∧Exo h T) {v:V} {m:Value} (r:Rel h ρ N v m):Rel h' ρ N v m:=(Rel.slip2 sl x).1 r
theorem Inv.slip (I:Inv C γ ρ H s) (nz:ar H) (he:C.base.get? e=none) (hT:C.base.get? T=none) (x:Exo s.heap e∧Exo s.heap T) (sl:jD γ e T s.heap h'):Inv C γ ρ H { s with heap:=h' }:=by
 refine ⟨fun a o q=>?_,I.len,I.nodup,I.fresh,fun a q=>let ⟨o,z⟩:=I.there a q; sl.2 a o z,fun i a o h1 h2=>?_,I.apart,I.bor,fun a q=>let ⟨o,z⟩:=I.held a q; sl.2 a o z,I.off,fun a q=>?_,fun a q=>(I.hq nz a q).elim,I.hq,I.gens,I.os⟩
 ·obtain ⟨o',z1,z2,z3⟩:=sl.1 a o (I.base a o q) (fun z=>by rw [z,he] at q; cases q) fun z=>by rw [z,hT] at q; cases q
  rw [z1,z3 fun z=>by rw [I.off a (γ.fh a z)] at q; cases q]
 ·have ob:=I.obj i a o h1 h2
  have nf:o≠.dead→¬ γ.f a:=fun nd z=>nd (I.bor i a o h1 (I.apart a (List.mem_of_getElem? h1) (γ.fh a z)) h2)
  cases o with
  | list vs=>
   obtain ⟨ms,⟨n,q1⟩,q2,q3⟩:=ob
   exact ⟨ms,⟨n,sl.same x q1 (.inl fun vs q=>by cases q) fun es n q=>by cases q⟩,(Rel.slip2 sl x).2 q2,q3⟩
  | inst c=>exact absurd (List.mem_of_getElem? h2) (nz c)
  | obj j=>
   obtain ⟨q0,d,q1,q2⟩:=ob
   exact ⟨q0,d,q1,sl.same x q2 (.inl fun vs q=>by cases q) fun es n q=>by cases q⟩
  | attrs fs=>
   obtain ⟨es,n,q1,q2⟩:=ob
   obtain ⟨o',z1,_,z3⟩:=sl.at x q1 (.inl fun vs q=>by cases q)
   exact ⟨es,n,by rw [z1,z3 (nf HO.noConfusion)],q2.map fun _ _ r=>r.slip sl x⟩
  | dictS kvs=>
   obtain ⟨ms,q1,q2,q3⟩:=ob
   refine ⟨ms,iv q1 fun o ho=>?_,q2.map fun _ _ r=>r.slip sl x,q3⟩
   obtain ⟨o₀,es,ep,g1,_,g2,_⟩:=q1
   rw [g1] at ho; cases ho
   obtain ⟨o',z1,_,z3⟩:=sl.at x g1 (.inl fun vs q=>by rw [g2] at q; cases q)
   rw [z1,z3 (nf HO.noConfusion)]
  | dead=>trivial
 ·obtain ⟨o,es,n,z,d⟩:=I.frm a q
  obtain ⟨o',z1,z2,_⟩:=sl.at x z (.inl fun vs q=>by rw [d] at q; cases q)
  exact ⟨o',es,n,z1,z2.dict d⟩
theorem Fra.slip (F:Fra γ env st ρ s) (x:Exo s.heap e∧Exo s.heap T) (sl:jD γ e T s.heap h'):Fra γ env st ρ { s with heap:=h' }:=by
 obtain ⟨m,hm,hv⟩:=F.ns
 refine ⟨F.kind,F.glob,F.blt,F.nl,F.own,⟨m,aO hm fun o ho=>?_,fun y v k kz q=>?_⟩,fun n k=>?_,F.apart,F.nb,F.nbc⟩
 ·obtain ⟨o₀,es,ep,g1,g2,_⟩:=hm
  rw [g1] at ho; cases ho
  obtain ⟨o',z1,z2,_⟩:=sl.at x g1 (.inl fun vs q=>by rw [g2] at q; cases q)
  exact ⟨o',z1,z2⟩
 ·obtain ⟨mv,e1,e2⟩:=hv y v k kz q
  exact ⟨mv,e1,e2.slip sl x⟩
 ·obtain ⟨c,ov,h1,h2,⟨oc,hoc,hdc⟩,h4⟩:=F.cell n k
  refine ⟨c,ov,h1,h2,⟨oc,sl.same x hoc (.inl fun vs q=>by rw [hdc] at q; cases q) (fun es n q=>by rw [hdc] at q; cases q),hdc⟩,fun y hy v q=>?_⟩
  obtain ⟨mv,e1,e2⟩:=h4 y hy v q
  exact ⟨mv,e1,e2.slip sl x⟩
theorem cw.slip (S:cw W ρ H s ρ' H' s₁) (he:s.heap.get? e=none) (hT:s.heap.get? T=none) (sl:jD γ e T s₁.heap h'):cw W ρ H s ρ' H' { s₁ with heap:=h' }:=
 ⟨fun a o q n nw=>by
  obtain ⟨o',e1,al⟩:=S.keep a o q n nw
  obtain ⟨o'',e2,al2,_⟩:=sl.1 a o' e1 (fun z=>by rw [z,he] at q; cases q) fun z=>by rw [z,hT] at q; cases q
  exact ⟨o'',e2,al.trans al2⟩,S.live,S.pre⟩
theorem fJ {a b:Addr} {o:HO} (hl:ρ.length=H.length) (ho:o.isLive=false) (q:Lv (ρ++[a]) (H++[o]) b):Lv ρ H b:=by
 obtain ⟨i,x,h1,h2,h3⟩:=q
 by_cases hi:i < H.length
 ·rw [List.getElem?_append_left (hl▸hi)] at h1
  rw [List.getElem?_append_left hi] at h2
  exact ⟨i,x,h1,h2,h3⟩
 ·rw [List.getElem?_append_right (Nat.le_of_not_lt hi)] at h2
  have:x=o:=by
   cases hk:i - H.length with
   | zero=>rw [hk] at h2; exact (Option.some.inj h2).symm
   | succ n=>rw [hk] at h2; cases h2
  rw [this,ho] at h3; cases h3
theorem cw.snoc {a:Addr} {o:HO} (S:cw W ρ H s ρ' H' s₁) (hl:ρ'.length=H'.length) (ho:o.isLive=false):cw W ρ H s (ρ'++[a]) (H'++[o]) s₁:=
 ⟨S.keep,fun b nw q=>S.live b nw (fJ hl ho q),fun i b q=>by have:=S.pre i b q; rw [List.getElem?_append_left (List.getElem?_eq_some_iff.mp this).1]; exact this⟩
theorem cw.cut {n:Nat} (S:cw W ρ H s ρ' H' s₁) (hn:ρ.length≤n):cw W ρ H s (ρ'.take n) (H'.take n) s₁:=
 ⟨S.keep,fun b nw q=>S.live b nw (dl q),fun i a q=>by
  rw [List.getElem?_take,if_pos (by have:=(List.getElem?_eq_some_iff.mp q).1; exact li [i,n,_] [([3],[2]),([1,0],[3])] [1,0] [2] rfl hn this)]; exact S.pre i a q⟩
noncomputable def Ge (γ:Gh) (e:Addr):Gh:=⟨γ.h,γ.f,γ.fh,fun a=>a=e,γ.b,γ.bh⟩
theorem Inv.handle {c:String} {cls:Addr} {fl:Value} (I:Inv C γ ρ H s) (ne:e ∉ ρ) (nh: ¬ γ.h e) (nb:C.base.get? e=none) (x:iQ s.heap e T cls fl) (hc:c∈C.exs∧C.mg c=some (.ref cls)):Inv C (Ge γ e) (ρ++[e]) (H++[.inst c]) s:=by
 obtain ⟨oe,vs,oT,ts,h1,⟨h2,h3,h4⟩,⟨_,h5⟩,_⟩:=x
 have kp:cF s.heap ρ (Nl γ ρ H) s.heap (ρ++[e]) (Nl (Ge γ e) (ρ++[e]) (H++[.inst c])):=⟨fun _ o q _=>⟨o,q,.refl o⟩,fun b q=>.inl (q.imp (fJ I.len rfl) id),fun i b q=>by rw [List.getElem?_append_left (List.getElem?_eq_some_iff.mp q).1]; exact q⟩
 have cs: ∀ {i:Nat} {a:Addr} {o:HO},(ρ++[e])[i]?= some a→(H++[.inst c])[i]?= some o→(ρ[i]?= some a∧H[i]?= some o)∨(a=e∧o=.inst c):=fun {i a o} q1 q2=>by
  by_cases hi:i < H.length
  ·rw [List.getElem?_append_left (I.len▸hi)] at q1
   rw [List.getElem?_append_left hi] at q2
   exact .inl ⟨q1,q2⟩
  ·rw [List.getElem?_append_right (by rw [I.len]; exact Nat.le_of_not_lt hi),I.len] at q1
   rw [List.getElem?_append_right (Nat.le_of_not_lt hi)] at q2
   cases hk:i - H.length with
   | zero=>rw [hk] at q1 q2; cases q1; cases q2; exact .inr ⟨rfl,rfl⟩
   | succ n=>rw [hk] at q1; cases q1
 have mem: ∀ {a:Addr},a∈ρ++[e]→a∈ρ∨a=e:=fun q=>(List.mem_append.mp q).imp id List.mem_singleton.mp
 refine ⟨I.base,by simp [I.len],List.nodup_append.mpr ⟨I.nodup,by simp,fun x hx y hy q=>ne (by rw [List.mem_singleton.mp hy] at q; exact q▸hx)⟩,fun a q=>(mem q).elim (I.fresh a) fun z=>z▸nb,fun a q=>(mem q).elim (I.there a) fun z=>z▸⟨oe,h1⟩,fun i a o q1 q2=>?_,fun a q z=>(mem q).elim (fun q=>I.apart a q z) fun q=>absurd (q▸z) nh,fun i a o q1 z q2=>?_,I.held,I.off,I.frm,fun a q=>?_,fun z=>absurd (List.mem_append.mpr (.inr List.mem_cons_self)) (z c),I.gens,I.os⟩
 ·rcases cs q1 q2 with ⟨q1,q2⟩ | ⟨rfl,rfl⟩
  ·exact (I.obj i a o q1 q2).kept kp fun _ q=>q
  ·exact ⟨hc.1,oe,cls,vs,h1,hc.2,h2,h3,h4⟩
 ·rcases cs q1 q2 with ⟨q1,q2⟩ | ⟨rfl,rfl⟩
  ·exact I.bor i a o q1 z q2
  ·exact absurd (γ.bh _ z) nh
 ·obtain rfl:a=e:=q
  exact ⟨⟨oe,vs,h1,h4,h5⟩,fun z=>by obtain ⟨i,o,z1,_⟩:=fJ I.len rfl z; exact ne (List.mem_of_getElem? z1),nh⟩
theorem Fra.handle {c:String} (F:Fra γ env st ρ s) (hl:ρ.length=st.H.length):Fra (Ge γ e) env ⟨st.s,st.H++[.inst c]⟩ (ρ++[e]) s:=by
 have kp:cF s.heap ρ (Nl γ ρ st.H) s.heap (ρ++[e]) (Nl (Ge γ e) (ρ++[e]) (st.H++[.inst c])):=⟨fun _ o q _=>⟨o,q,.refl o⟩,fun b q=>.inl (q.imp (fJ hl rfl) id),fun i b q=>by rw [List.getElem?_append_left (List.getElem?_eq_some_iff.mp q).1]; exact q⟩
 obtain ⟨m,hm,hv⟩:=F.ns
 refine ⟨F.kind,F.glob,F.blt,fun z=>F.nl (fJ hl rfl z),F.own,⟨m,hm,fun y v k kz q=>let ⟨mv,e1,e2⟩:=hv y v k kz q; ⟨mv,e1,e2.kept kp⟩⟩,fun n k=>?_,F.apart,F.nb,F.nbc⟩
 obtain ⟨c',ov,h1,h2,h3,h4⟩:=F.cell n k
 exact ⟨c',ov,h1,⟨fun z=>h2.1 (fJ hl rfl z),h2.2⟩,h3,fun y hy v q=>let ⟨mv,e1,e2⟩:=h4 y hy v q; ⟨mv,e1,e2.kept kp⟩⟩
theorem rn {n:Nat} {y:String} {v:V} (h:(st.cut n).s y=some v):st.s y=some v∧low n v:=by
 obtain ⟨u,h1,h2⟩:=Option.bind_eq_some_iff.mp h
 by_cases q:low n u
 ·rw [if_pos q] at h2; cases h2; exact ⟨h1,q⟩
 ·rw [if_neg q] at h2; cases h2
theorem Fra.cut {n:Nat} (F:Fra (Ge γ e) env st ρ s):Fra γ env (st.cut n) (ρ.take n) s:=by
 have cN: ∀ a,Nl γ (ρ.take n) (st.H.take n) a→Nl (Ge γ e) ρ st.H a:=fun a q=>q.imp dl id
 obtain ⟨m,hm,hv⟩:=F.ns
 refine ⟨F.kind,F.glob,F.blt,fun z=>F.nl (dl z),F.own,⟨m,hm,fun x v k kz q=>?_⟩,fun y k=>?_,F.apart,F.nb,F.nbc⟩
 ·obtain ⟨q1,q2⟩:=rn q
  obtain ⟨mv,e1,e2⟩:=hv x v k kz q1
  exact ⟨mv,e1,e2.cut cN q2⟩
 ·obtain ⟨c,ov,h1,h2,h3,h4⟩:=F.cell y k
  refine ⟨c,ov,h1,⟨fun z=>h2.1 (dl z),h2.2⟩,h3,fun z hz v q=>?_⟩
  obtain ⟨q1,q2⟩:=rn q
  obtain ⟨mv,e1,e2⟩:=h4 z hz v q1
  exact ⟨mv,e1,e2.cut cN q2⟩
theorem bO.mark (hr:bO k A γ):bO k (A.mark (some (.ref e))) (Ge γ e):=⟨hr.depth,hr.units,fun v q=>⟨e,(Option.some.inj q).symm,rfl⟩,hr.frs⟩
theorem Top.mark (h:Top A env) {v:Option Value}:Top (A.mark v) env:=h
theorem si {c:String} {m:List Nat} {arg:Expr} {np cpos pos:Pos} (hk:cf sc c=true) (hc:c∈C.exs) (hes:SEs C k sc (.cons (.str m) .nil) [arg]):SS C k sc (.raise c) (.Raise (some (.Call (.Name (c:Str) np) [arg] [] cpos)) none pos):=by
 intro env A s γ ρ st Q X hs hr ht I F w
 obtain ⟨cls,⟨hb,bm,N,nm,q,bs,hdct,sn,sub,ab,col,dd,k0,k1,k2,k3,k5,mN,hC,hN,hni,T⟩,_⟩:=C.hexs c hc
 rw [← hs] at hk
 simp only [cf,Bool.and_eq_true,beq_iff_eq,Bool.not_eq_true',kd] at hk
 refine wpAny_Raise_call_subT (C:=cls) (N:=N) (nm:=nm) (q:=q) (bs:=bs) (bm:=bm) (hdct:=hdct) (sn:=sn) (sub:=sub) (ab:=ab) (col:=col) (dd:=dd) (k0:=k0) (k1:=k1) (k2:=k2) (k3:=k3) (k5:=k5) PySem.F.excBase_ValueError (T.hasType rfl) (hr.handled I w.1) (cV hes.1) hni ?_
 refine Calls.Name_function_global F.kind hk.1 (Calls.loadGlobal_global (mg:=C.mg) (by rw [F.glob]; exact C.g.keeps I.base) hb ⟨rfl,?_⟩) hk.2
 refine wpAny_mono (bR (X:=fun _ _=>False) hes hs hr (At.start I F) (W:=fun _ st'=>st'=st) (by exact rfl) fun ms s₁ vs st₁ ρ₁ hn w₁ r₁ a₁ S₁=>?_) (fun _ _ x=>x) fun _ _ p=>?_
 ·subst w₁
  have kp: ∀ b o,C.base.get? b=some o→s₁.heap.get? b=some o:=a₁.inv.base
  refine ⟨rfl,?_,kp _ _ hC,hN.keeps kp,T.keeps kp,fun h' e hme=>?_⟩
  ·rw [hn]; show 1≤sizeLine; decide
  obtain ⟨t,ht,_,_⟩:=hme.there
  have S2:Stp ρ₁ st₁.H s₁ ρ₁ st₁.H { s₁ with heap:=h' }:=Stp.of_keep hme.keeps
  exact ⟨c,st₁,ρ₁,w.2,.inr ⟨e,cls,t,rfl,⟨hc,hb⟩,a₁.stp.back a₁.inv e hme.new,ht⟩,a₁.inv.of_keep hme.keeps rfl rfl,a₁.fra.step S2 rfl,(a₁.stp.trans S2).w⟩
 ·obtain ⟨_,_,_,z,_⟩:=p; exact z.elim
theorem uj {ev:Value} {c c':String} {np hp:Pos} {nm:Option Str} {body:List Stmt} {Qf:PySem.Flow→Shared→Prop} {Ex:Value→Shared→Prop} {st':St} (hr:bO (2*k+1) A γ) (ht:Top A env) (I:Inv C γ ρ st.H s) (I1:Inv C γ ρ' st'.H s₁) (F1:Fra γ env st' ρ' s₁) (S1:cw (Own env) ρ st.H s ρ' st'.H s₁)
  (x:jd C s.heap s₁ ev c'∨pz C s.heap s₁ ev c') (nz:ar st'.H) (hc:c∈C.exs) (hk:cf env.scope c=true) (hcat:eC c c'=true)
  (suite: ∀ e T cls s₂,s.heap.get? e=none→s.heap.get? T=none→(c'∈C.exs∧C.mg c'=some (.ref cls))→iQ s₂.heap e T cls .none→Inv C γ ρ' st'.H s₂→Fra γ env st' ρ' s₂→cw (Own env) ρ st.H s ρ' st'.H s₂→
   codeAny C.M (A.mark (some (.ref e))) (.handlers (.ref e) [.ExceptHandler none nm body hp] env) (fun r s₂=>match r with
     | .ok f=>(match (generalizing:=false) nm with
      | none=>Qf f s₂
      | some n=>wpAny C.M A (do bindName env n .none; unbindBehindTheSuite env n hp) (fun _ s₃=>Qf f s₃) Ex s₂)
     | .error x=>cameBackBy C.M A env Ex x s₂) s₂):
  wpAny C.M A (noteFrame ev env) (fun _ s₂=>wpAny C.M A (setFlight ev none) (fun _ s₃=>wpAny C.M A (handleBy ev env [.ExceptHandler (some (.Name (c:Str) np)) nm body hp]) Qf Ex s₃) Ex s₂) Ex s₁:=by
 obtain ⟨l,hfr⟩:=ht
 obtain ⟨l',hfr',hl⟩:=hr.frs
 rw [hfr] at hfr'; cases hfr'
 obtain ⟨_,L,hL,_⟩:=hl env List.mem_cons_self
 refine zp hfr hL hl I1.frm (fun a o q=>?_) x fun h' e T hev he hT xo sl x'=>?_
 ·cases z:s₁.heap.get? a with
  | some o'=>exact ⟨o',rfl⟩
  | none=>have:=S1.back I1 F1 a z; rw [q] at this; cases this
 subst hev
 have nbe:=I.none_above he
 have nbT:=I.none_above hT
 have I2:=I1.slip nz nbe nbT xo sl
 have F2:=F1.slip xo sl
 have S2:=S1.slip he hT sl
 obtain ⟨e',cls,T',rfl',hc',_,hT',xa⟩:=x'
 cases rfl'
 obtain ⟨clsH,⟨⟨hmH,_⟩,_⟩⟩:=C.hexs c hc
 refine wpAny_handleBy_cons (codeAny_handlers_test (gA (st:=st') I2 F2 hmH hk ?_)) (by intro q; cases q)
 obtain ⟨cls',⟨⟨h0,_⟩,K,hK,_,_,h3⟩⟩:=C.hexs c' hc'.1
 have h0:C.mg (c':Str)=some (.ref cls'):=h0
 rw [hc'.2] at h0; cases h0
 obtain ⟨z,z1,_,z3⟩:=h3 c hc
 rw [show C.mg (c:Str)=some (.ref clsH) from hmH] at z1; cases z1
 have xa':=xa
 obtain ⟨oe,vs,oT,ts,q1,⟨q2,q3,q4⟩,_⟩:=xa
 have inst:PySem.W.InstAt h' e oe cls none:=⟨q1,q2,by unfold PySem.W.notCls; rw [q4],by rw [q3]; trivial⟩
 exact mA (s:={ s₁ with heap:=h' }) (fun a o q=>I2.base a o (hK a o q)) inst (z3 hcat) (suite e T' cls _ he hT' hc' xa' I2 F2 S2)
theorem zq {e:Addr} {st':St} (I:Inv C γ ρ st.H s) (I1:Inv C γ ρ' st'.H s₁) (S1:cw W ρ st.H s ρ' st'.H s₁) (hl:st'.H.length=st.H.length) (he:s.heap.get? e=none):e ∉ ρ':=fun q=>by
 obtain ⟨i,hi⟩:=List.mem_iff_getElem?.mp q
 have lt:i < ρ.length:=by rw [I.len,← hl,← I1.len]; exact (List.getElem?_eq_some_iff.mp hi).1
 have h1:=S1.pre i _ (List.getElem?_eq_getElem lt)
 rw [hi] at h1
 obtain ⟨o,ho⟩:=I.there _ (List.getElem_mem lt)
 rw [← Option.some.inj h1,he] at ho; cases ho
theorem bT.cut {h:Heap} {N N':Addr→Prop} {n:Nat} {f:Flow} {fl:PySem.Flow} (hN: ∀ a,N' a→N a) (r:bT h ρ N f fl) (l:BQ n f):bT h (ρ.take n) N' f fl:=by
 cases r with
 | next=>exact .next
 | brk=>exact .brk
 | cont=>exact .cont
 | ret r=>exact .ret (r.cut hN l)
theorem uk {e:Addr} {Q:Flow→St→Prop} {f:Flow} {fl:PySem.Flow} {st4:St} {ρ4:List Addr} {s4:Shared} (I:Inv C γ ρ st.H s) (nz0:ar st.H) (lo:st4.H.take st.H.length=st.H) (lf:BQ st.H.length f) (hQ:Q f (st4.cut st.H.length))
  (hfl:bT s4.heap ρ4 (Nl (Ge γ e) ρ4 st4.H) f fl) (I4:Inv C (Ge γ e) ρ4 st4.H s4) (F4:Fra (Ge γ e) env st4 ρ4 s4) (S4:cw (Own env) ρ st.H s ρ4 st4.H s4):fk C γ env ρ st s Q fl s4:=by
 have hq:=I.hq nz0
 have I5:Inv C γ ρ4 st4.H s4:=I4.drop (fun _ q=>q) (fun _ q=>q) (fun b q=>absurd q (hq b)) fun _=>Iff.rfl
 refine ⟨f,st4.cut st.H.length,ρ4.take st.H.length,hQ,hfl.cut (fun a q=>q.imp dl id) lf,I5.cut (fun _=>hq) fun i o hi ho=>I.lowO (i:=i) (by rw [← lo,List.getElem?_take,if_pos hi]; exact ho),F4.cut,S4.cut (by rw [I.len]; exact Nat.le_refl _)⟩
theorem xK {b h:Ss} {c:String} {pb ph:List Stmt} {np hp pos:Pos} (hk:cf sc c=true) (hc:c∈C.exs) (hne:ph≠[]) (hb:SSs C k sc b pb) (hh:SSs C k sc h ph):SS C k sc (.try_ b c none h) (.Try pb [.ExceptHandler (some (.Name (c:Str) np)) none ph hp] [] [] pos):=by
 intro env A s γ ρ st Q X hs hr ht I F w
 obtain ⟨nz0,w⟩:=w
 refine wpAny_Try_except (wpAny_mono (hb env A s γ ρ st _ _ hs hr ht I F w) (fun fl s₁ p=>?_) fun ev s₁ p=>?_)
 ·obtain ⟨f,st',ρ',h1,h2,h3,h4,h5⟩:=p
  cases h2 with
  | next=>exact wpAny_execs_nil ⟨_,st',ρ',h1,.next,h3,h4,h5⟩
  | brk=>exact ⟨_,st',ρ',h1,.brk,h3,h4,h5⟩
  | cont=>exact ⟨_,st',ρ',h1,.cont,h3,h4,h5⟩
  | ret r=>exact ⟨_,st',ρ',h1,.ret r,h3,h4,h5⟩
 ·obtain ⟨c',st',ρ',⟨⟨hlen,nz,hcat⟩,w'⟩,hx,I1,F1,S1⟩:=p
  cases ph with
  | nil=>exact absurd rfl hne
  | cons b0 bs=>
   refine uj hr ht I I1 F1 S1 hx nz hc (hs▸hk) hcat fun e T cls s₂ he hT hcc xa I2 F2 S2=>?_
   refine codeAny_handlers_suite (fD (γ:=γ) xa fun h₃ sl x3=>?_)
   have I3:=I2.slip nz (I.none_above he) (I.none_above hT) xa.exo sl
   have F3:=F2.slip xa.exo sl
   have S3:=S2.slip he hT sl
   have I4:=I3.handle (zq I I1 S1 hlen he) (I.ghost_new he) (I.none_above he) x3 hcc
   have F4:=F3.handle (e:=e) (c:=c') I3.len
   have S4:=S3.snoc (a:=e) (o:=.inst c') I3.len rfl
   refine wpAny_mono (hh env (A.mark (some (.ref e))) _ (Ge γ e) (ρ'++[e]) ⟨st'.s,st'.H++[HO.inst c']⟩ _ _ hs hr.mark ht.mark I4 F4 w') (fun fl s₅ p=>?_) fun _ _ p=>p.none
   obtain ⟨f',st5,ρ5,⟨lf,lo,hQ⟩,hfl,I5,F5,S5⟩:=p
   exact uk I nz0 lo lf hQ hfl I5 F5 (S4.trans S5)
end
end
noncomputable section
open PySem PyProof.Rows
noncomputable def GN (e:Expr):Option { x:Expr×Expr×Pos // e=.Subscript x.1 x.2.1 x.2.2 }:=match e with
 | .Subscript a i p=>some ⟨(a,i,p),rfl⟩
 | _=>none
noncomputable def DD (e:Expr):Option { x:Expr×List Comprehension×Scope×Pos // e=.ListComp x.1 x.2.1 x.2.2.1 x.2.2.2 }:=match e with
 | .ListComp a g c p=>some ⟨(a,g,c,p),rfl⟩
 | _=>none
noncomputable def tp (f:Stmt→S):List Stmt→Ss
 | []=>.nil
 | s::r=>.cons (f s) (tp f r)
noncomputable def DP (N:Nm) (sc:Scope) (c:Expr→E) (c':Scope→Expr→E) (y:Str) (e:Expr):S:=(nm N.all y).elim .stuck fun x=>bif kf sc x.1 then
  (bif !df e then .asg x.1 (c e) else (DD e).elim .stuck fun z=>.asg x.1 (zS N sc c (c' z.1.2.2.1) z.1.1 z.1.2.1 z.1.2.2.1)) else .stuck
noncomputable def Fh (N:Nm) (sc:Scope) (c:Expr→E) (c':Scope→Expr→E) (ts:List Expr) (e:Expr):S:=(one ts).elim .stuck fun t=>
 (ld t.1).elim ((GN t.1).elim ((zC t.1).elim .stuck fun z=>(nm N.all z.1.2.1).elim .stuck fun x=>bif !df e && N.ats.contains x.1 then .asgAttr (c z.1.1) x.1 (c e) else .stuck) fun z=>bif !df e then .asgSub (c z.1.1) (c z.1.2.1) (c e) else .stuck) fun y=>DP N sc c c' y.1.1 e
noncomputable def DE (e:Expr):Option { x:Expr×List Expr×List Keyword×Pos // e=.Call x.1 x.2.1 x.2.2.1 x.2.2.2 }:=match e with
 | .Call f es kw p=>some ⟨(f,es,kw,p),rfl⟩
 | _=>none
noncomputable def DC (e:E):Option { m:List Nat // e=.str m }:=match e with
 | .str m=>some ⟨m,rfl⟩
 | _=>none
noncomputable def GP (h:ExceptHandler):Option { x:Expr×Option Str×List Stmt×Pos // h=.ExceptHandler (some x.1) x.2.1 x.2.2.1 x.2.2.2 }:=match h with
 | .ExceptHandler (some t) n b p=>some ⟨(t,n,b,p),rfl⟩
 | _=>none
noncomputable def tP (N:Nm) (sc:Scope) (c:Expr→E) (e:Expr):S:=(DE e).elim .stuck fun x=>(ld x.1.1).elim .stuck fun y=>(nm N.all y.1.1).elim .stuck fun g=>(one x.1.2.1).elim .stuck fun a=>(DC (c a.1)).elim .stuck fun _=>
 bif cf sc g.1 && N.exs.contains g.1 && bq a.1 && x.1.2.2.1.isEmpty then .raise g.1 else .stuck
noncomputable def Fa (N:Nm) (sc:Scope) (f:List Stmt→Ss) (b:List Stmt) (hs:List ExceptHandler) (o fi:List Stmt):S:=bif o.isEmpty && fi.isEmpty then (one hs).elim .stuck fun h=>(GP h.1).elim .stuck fun x=>(ld x.1.1).elim .stuck fun y=>(nm N.all y.1.1).elim .stuck fun c=>
 bif cf sc c.1 && N.exs.contains c.1 && !x.1.2.2.1.isEmpty then x.1.2.1.elim (.try_ (f b) c.1 none (f x.1.2.2.1)) fun _=>.stuck else .stuck else .stuck
noncomputable def Ff (N:Nm) (sc:Scope) (c:Expr→E) (b:Ss) (x it:Expr) (o:List Stmt):S:=(ld x).elim .stuck fun y=>(nm N.all y.1.1).elim .stuck fun z=>bif o.isEmpty && kf sc z.1 && !bE it then .for_ z.1 (c it) b else .stuck
noncomputable def cS (N:Nm):Nat→Scope→Stmt→S
 | 0=>fun _ _=>.stuck
 | n+1=>fun sc ps=>match ps with
  | .Expr e _=>bif !df e then .ex (cE N n sc e) else .stuck
  | .Assign ts e _=>Fh N sc (cE N n sc) (fun cs=>cE N n (dy cs sc)) ts e
  | .If c t f _=>.ite (cE N n sc c) (tp (cS N n sc) t) (tp (cS N n sc) f)
  | .While c b o _=>bif o.isEmpty then .whl (cE N n sc c) (tp (cS N n sc) b) else .stuck
  | .For x it b o _=>Ff N sc (cE N n sc) (tp (cS N n sc) b) x it o
  | .Return e _=>e.elim .stuck fun pe=>.ret (cE N n sc pe)
  | .Continue _=>.cont
  | .Pass _=>.pass
  | .Raise e f _=>bif f.isNone then e.elim .stuck fun pe=>tP N sc (cE N n sc) pe else .stuck
  | .Try b hs o fi _=>Fa N sc (tp (cS N n sc)) b hs o fi
  | _=>.stuck
noncomputable def cSs (N:Nm) (n:Nat) (sc:Scope) (pss:List Stmt):Ss:=tp (cS N n sc) pss
section
variable {C:Cx} {k:Nat} {sc:Scope} {ps:Stmt}
theorem bB {α β:Type} {P:β→Prop} {o:Option α} {g:α→β} {d:β} (h0:P d) (h: ∀ x,P (g x)):P (o.elim d g):=by
 cases o with
 | none=>exact h0
 | some x=>exact h x
theorem fF {β:Type} {P:β→Prop} {b:Bool} {e d:β} (h0:P d) (h:b=true→P e):P (bif b then e else d):=by
 cases b with
 | false=>exact h0
 | true=>exact h rfl
theorem kJ {l:List String} {c c':Expr→E} {cs:Scope} (ih: ∀ pe,Snd C k sc (c pe) pe) (ih': ∀ pe,Snd C k (dy cs sc) (c' pe) pe) {y:String} (hy:kf sc y=true) {elt:Expr} {gs:List Comprehension} {py p sp:Pos}:
  SS C k sc (.asg y (zS (C.nm l) sc c c' elt gs cs)) (.Assign [.Name (y:Str) py] (.ListComp elt gs cs p) sp):=by
 have h0:SS C k sc (.asg y .stuck) (.Assign [.Name (y:Str) py] (.ListComp elt gs cs p) sp):=fun _ _ _ _ _ _ _ _ _ _ _ _ _ w=>False.elim w
 refine bB (P:=fun e=>SS C k sc (.asg y e) _) h0 fun g=>?_
 obtain ⟨⟨tg,it,ifs,asy⟩,rfl⟩:=g
 refine bB (P:=fun e=>SS C k sc (.asg y e) _) h0 fun z=>?_
 obtain ⟨⟨z,q⟩,hz⟩:=z
 have hz:tg=.Name z q:=hz
 subst hz
 refine bB (P:=fun e=>SS C k sc (.asg y e) _) h0 fun x=>?_
 obtain ⟨x,hx⟩:=x
 have hx:(x:Str)=z:=hx
 subst hx
 refine fF (P:=fun e=>SS C k sc (.asg y e) _) h0 fun h=>?_
 obtain ⟨h,h3⟩:=bN h
 obtain ⟨h1,h2⟩:=bN h
 have h3:asy=0:=beq_iff_eq.mp h3
 subst h3
 refine bB (P:=fun e=>SS C k sc (.asg y e) _) (fF (P:=fun e=>SS C k sc (.asg y e) _) h0 fun e=>?_) fun pc=>?_
 ·have e:ifs=[]:=List.isEmpty_iff.mp e
  subst e
  exact lM hy h1 (oQ h2) (ih' elt).1 (ih it).1
 ·obtain ⟨pc,hp⟩:=pc
  have hp:ifs=[pc]:=hp
  subst hp
  exact jS hy h1 (oQ h2) (ih' elt).1 (ih it).1 (ih' pc).2
theorem uy {l:List String} {c:Expr→E} {c':Scope→Expr→E} (ih: ∀ pe,Snd C k sc (c pe) pe) (ih': ∀ cs pe,Snd C k (dy cs sc) (c' cs pe) pe) {ts:List Expr} {e:Expr} {sp:Pos}:SS C k sc (Fh (C.nm l) sc c c' ts e) (.Assign ts e sp):=by
 refine bB (P:=fun x=>SS C k sc x _) aC fun t=>?_
 obtain ⟨t,rfl⟩:=t
 refine bB (P:=fun x=>SS C k sc x _) (bB (P:=fun x=>SS C k sc x _) (bB (P:=fun x=>SS C k sc x _) aC fun z=>bB (P:=fun x=>SS C k sc x _) aC fun x=>fF (P:=fun x=>SS C k sc x _) aC fun h=>?_) fun z=>fF (P:=fun x=>SS C k sc x _) aC fun h=>?_) fun y=>?_
 ·obtain ⟨⟨a,y,q⟩,hz⟩:=z
  have hz:t=.Attribute a y q:=hz
  subst hz
  obtain ⟨x,hx⟩:=x
  have hx:(x:Str)=y:=hx
  subst hx
  exact oE (List.contains_iff_mem.mp (bN h).2) (oQ (bN h).1) (ih a).1 (ih e).1
 ·obtain ⟨⟨a,i,q⟩,hz⟩:=z
  have hz:t=.Subscript a i q:=hz
  subst hz
  exact pU (oQ h) (ih a).1 (ih i).1 (ih e).1
 ·obtain ⟨⟨y,q⟩,hy⟩:=y
  have hy:t=.Name y q:=hy
  subst hy
  refine bB (P:=fun x=>SS C k sc x _) aC fun x=>?_
  obtain ⟨x,hx⟩:=x
  have hx:(x:Str)=y:=hx
  subst hx
  refine fF (P:=fun x=>SS C k sc x _) aC fun hl=>fF (P:=fun x=>SS C k sc x _) (bB (P:=fun x=>SS C k sc x _) aC fun z=>?_) fun h=>xO hl (oQ h) (ih e).1
  obtain ⟨⟨elt,gs,cs,p⟩,rfl⟩:=z
  exact kJ ih (ih' cs) hl
theorem gX {f:Stmt→S} (h: ∀ ps,SS C k sc (f ps) ps): ∀ pss:List Stmt,SSs C k sc (tp f pss) pss
 | []=>ut
 | ps::r=>sf (h ps) (gX h r)
theorem ux {l:List String} {c:Expr→E} {b:Ss} {x it:Expr} {pb o:List Stmt} {p:Pos} (ih: ∀ pe,Snd C k sc (c pe) pe) (hb:SSs C k sc b pb):SS C k sc (Ff (C.nm l) sc c b x it o) (.For x it pb o p):=by
 refine bB (P:=fun x=>SS C k sc x _) aC fun y=>?_
 obtain ⟨⟨y,q⟩,rfl⟩:=y
 refine bB (P:=fun x=>SS C k sc x _) aC fun z=>?_
 obtain ⟨z,hz⟩:=z
 have hz:(z:Str)=y:=hz
 subst hz
 refine fF (P:=fun x=>SS C k sc x _) aC fun h=>?_
 obtain ⟨h,h3⟩:=bN h
 obtain ⟨h1,h2⟩:=bN h
 have h1:o=[]:=List.isEmpty_iff.mp h1
 subst h1
 exact xN h2 (oQ h3) (ih it).1 hb
theorem pT {l:List String} {c:Expr→E} (ih: ∀ pe,Snd C k sc (c pe) pe) {e:Expr} {p:Pos}:SS C k sc (tP (C.nm l) sc c e) (.Raise (some e) none p):=by
 refine bB (P:=fun x=>SS C k sc x _) aC fun x=>?_
 obtain ⟨⟨f,es,kw,q⟩,rfl⟩:=x
 refine bB (P:=fun x=>SS C k sc x _) aC fun y=>?_
 obtain ⟨⟨y,np⟩,hy⟩:=y
 have hy:f=.Name y np:=hy
 subst hy
 refine bB (P:=fun x=>SS C k sc x _) aC fun g=>?_
 obtain ⟨g,hg⟩:=g
 have hg:(g:Str)=y:=hg
 subst hg
 refine bB (P:=fun x=>SS C k sc x _) aC fun a=>?_
 obtain ⟨a,ha⟩:=a
 have ha:es=[a]:=ha
 subst ha
 refine bB (P:=fun x=>SS C k sc x _) aC fun m=>fF (P:=fun x=>SS C k sc x _) aC fun h=>?_
 obtain ⟨h,h4⟩:=bN h
 obtain ⟨h,h3⟩:=bN h
 obtain ⟨h1,h2⟩:=bN h
 have h4:kw=[]:=List.isEmpty_iff.mp h4
 subst h4
 have hs:SEs C k sc (lK c [a]) [a]:=dw ih (by rw [List.all_cons,show bq a=true from h3]; rfl)
 rw [lK,show c a=.str m.1 from m.2] at hs
 exact si h1 (List.contains_iff_mem.mp h2) hs
theorem uw {l:List String} {f:List Stmt→Ss} (hf: ∀ pss,SSs C k sc (f pss) pss) {b:List Stmt} {hs:List ExceptHandler} {o fi:List Stmt} {p:Pos}:SS C k sc (Fa (C.nm l) sc f b hs o fi) (.Try b hs o fi p):=by
 refine fF (P:=fun x=>SS C k sc x _) aC fun h0=>bB (P:=fun x=>SS C k sc x _) aC fun h=>?_
 have h1:o=[]:=List.isEmpty_iff.mp (bN h0).1
 have h2:fi=[]:=List.isEmpty_iff.mp (bN h0).2
 subst h1 h2
 obtain ⟨h,rfl⟩:=h
 refine bB (P:=fun x=>SS C k sc x _) aC fun x=>?_
 obtain ⟨⟨t,n,ph,hp⟩,hx⟩:=x
 have hx:h=.ExceptHandler (some t) n ph hp:=hx
 subst hx
 refine bB (P:=fun x=>SS C k sc x _) aC fun y=>?_
 obtain ⟨⟨y,np⟩,hy⟩:=y
 have hy:t=.Name y np:=hy
 subst hy
 refine bB (P:=fun x=>SS C k sc x _) aC fun c=>?_
 obtain ⟨c,hc⟩:=c
 have hc:(c:Str)=y:=hc
 subst hc
 refine fF (P:=fun x=>SS C k sc x _) aC fun h=>?_
 obtain ⟨h,h3⟩:=bN h
 obtain ⟨h1,h2⟩:=bN h
 cases n with
 | none=>exact xK h1 (List.contains_iff_mem.mp h2) (cZ h3) (hf b) (hf ph)
 | some z=>
  exact aC
theorem tw {l:List String}: ∀ (n:Nat) (sc:Scope) (ps:Stmt),SS C k sc (cS (C.nm l) n sc ps) ps
 | 0,_,_=>aC
 | n+1,sc,ps=>by
  have ih:=tw (l:=l) n sc
  have ie:=fun sc=>tx (C:=C) (k:=k) (l:=l) n sc
  cases ps with
  | Expr e p=>exact fF (P:=fun x=>SS C k sc x _) aC fun h=>Ch (oQ h) (ie sc e).1
  | Assign ts e p=>exact uy (ie sc) fun cs=>ie (dy cs sc)
  | If c t f p=>exact xM (ie sc c).2 (gX ih t) (gX ih f)
  | While c b o p=>
   refine fF (P:=fun x=>SS C k sc x _) aC fun h=>?_
   have h:o=[]:=List.isEmpty_iff.mp h
   subst h
   exact xJ (ie sc c).2 (gX ih b)
  | For x it b o p=>exact ux (ie sc) (gX ih b)
  | Return e p=>
   cases e with
   | none=>exact aC
   | some pe=>exact xL (ie sc pe).1
  | Continue p=>exact uv
  | Pass p=>exact uu
  | Raise e f p=>
   refine fF (P:=fun x=>SS C k sc x _) aC fun h=>?_
   have h:f=none:=Option.isNone_iff_eq_none.mp h
   subst h
   cases e with
   | none=>exact aC
   | some pe=>exact pT (ie sc)
  | Try b hs o fi p=>exact uw (gX ih)
  | _=>exact aC
theorem uz {l:List String} (n:Nat) (sc:Scope) (pss:List Stmt):SSs C k sc (cSs (C.nm l) n sc pss) pss:=gX (tw n sc) pss
end
end
noncomputable section
open PySem PyProof.Rows
noncomputable def eD:List String→List V→String→Option V
 | []=>fun _ _=>.none
 | p::ps=>fun vs x=>vs.head?.bind fun v=>if x=p then some v else eD ps vs.tail x
noncomputable def lB (ps:List String) (vs:List Value):List (Str×Value):=(ps.zip vs).map fun x=>((x.1:Str),x.2)
structure Fj (C:Cx) (f:String) (ps:List String) (ss:Ss) (fa:Addr) (o:Obj) (fd:FuncData) (body:List Stmt):Prop where
 mg:C.fa f=some fa
 obj:C.base.get? fa=some o
 data:o.data=.func fd
 code:C.base.CodeRec fd.code fd.qualname
 text:fd.body=.stmts body
 closure:fd.closure=[]
 globals:fd.globals=mainGlobals
 builtins:fd.builtins=builtinsNs
 kind:fd.scope.kind=.function
 co:fd.scope.isCoroutine=false
 gen:fd.scope.isGenerator=false
 bind: ∀ vals:List Value,vals.length=ps.length→bindArgs fd ⟨vals,[]⟩=pure (lB ps vals)
 params: ∀ p∈ps,kd fd.scope p=some .local∨kd fd.scope p=some .cell
 nofree: ∀ n,fd.scope.names.lookup n≠some .free
 nodup:ps.Nodup
 sound: ∀ k,SSs C k fd.scope ss body
noncomputable def bc (C:Cx) (f:String) (ps:List String) (ss:Ss):Prop:=∃ fa o fd body,Fj C f ps ss fa o fd body
theorem rY {x:Str×Value} {ps:List String} {vs:List Value} (h:x∈lB ps vs): ∃ p∈ps,x.1=(p:Str):=by
 obtain ⟨y,h1,rfl⟩:=List.mem_map.mp h
 exact ⟨y.1,(List.of_mem_zip h1).1,rfl⟩
section
variable {kindOf:Str→Option NameKind} {h:Heap} {ρ:List Addr} {N:Addr→Prop}
theorem jw {a:Str} {v:Value} {l:List (Str×Value)} {m:Str→Option Value}:bindL kindOf ((a,v)::l) m=bindL kindOf l (if kindOf a=some .local then fun y=>if y=a then some v else m y else m):=rfl
theorem jx {a:Str} {v:Value} {l:List (Str×Value)} {m:Str→Option Value}:bindC kindOf ((a,v)::l) m=bindC kindOf l (if kindOf a=some .local then m else fun y=>if y=a then some v else m y):=rfl
theorem mL {x:String} (ps:List String): ∀ (ms:List Value) (m:Str→Option Value),x ∉ ps→bindL kindOf (lB ps ms) m x=m x:=by
 induction ps with
 | nil=>exact fun _ _ _=>rfl
 | cons p ps ih=>
  intro ms m hx
  cases ms with
  | nil=>rfl
  | cons v ms=>
   rw [show lB (p::ps) (v::ms)=((p:Str),v)::lB ps ms from rfl,jw,ih ms _ fun q=>hx (List.mem_cons_of_mem _ q)]
   split
   ·exact if_neg fun e=>hx (List.mem_cons.mpr (.inl (fm e)))
   ·rfl
theorem mM {x:String} (ps:List String): ∀ (ms:List Value) (m:Str→Option Value),x ∉ ps→bindC kindOf (lB ps ms) m x=m x:=by
 induction ps with
 | nil=>exact fun _ _ _=>rfl
 | cons p ps ih=>
  intro ms m hx
  cases ms with
  | nil=>rfl
  | cons v ms=>
   rw [show lB (p::ps) (v::ms)=((p:Str),v)::lB ps ms from rfl,jx,ih ms _ fun q=>hx (List.mem_cons_of_mem _ q)]
   split
   ·rfl
   ·exact if_neg fun e=>hx (List.mem_cons.mpr (.inl (fm e)))
theorem rF {x:String} {v:V} (hk:kindOf x=some .local) (ps:List String): ∀ {vs:List V} {ms:List Value} {m:Str→Option Value},ps.Nodup→aR h ρ N vs ms→eD ps vs x=some v→∃ mv,bindL kindOf (lB ps ms) m x=some mv∧Rel h ρ N v mv:=by
 induction ps with
 | nil=>intro _ _ _ _ _ e; cases e
 | cons p ps ih=>
  intro vs ms m nd r e
  cases r with
  | nil=>cases e
  | @cons v0 m0 vs ms r q=>
   have e:(if x=p then some v0 else eD ps vs x)=some v:=e
   rw [show lB (p::ps) (m0::ms)=((p:Str),m0)::lB ps ms from rfl,jw]
   by_cases hx:x=p
   ·rw [if_pos hx] at e
    cases e
    subst hx
    rw [mL ps ms _ (List.nodup_cons.mp nd).1,if_pos hk]
    exact ⟨m0,if_pos rfl,r⟩
   ·rw [if_neg hx] at e
    exact ih (List.nodup_cons.mp nd).2 q e
theorem rG {x:String} {v:V} (hk:kindOf x≠some .local) (ps:List String): ∀ {vs:List V} {ms:List Value} {m:Str→Option Value},ps.Nodup→aR h ρ N vs ms→eD ps vs x=some v→∃ mv,bindC kindOf (lB ps ms) m x=some mv∧Rel h ρ N v mv:=by
 induction ps with
 | nil=>intro _ _ _ _ _ e; cases e
 | cons p ps ih=>
  intro vs ms m nd r e
  cases r with
  | nil=>cases e
  | @cons v0 m0 vs ms r q=>
   have e:(if x=p then some v0 else eD ps vs x)=some v:=e
   rw [show lB (p::ps) (m0::ms)=((p:Str),m0)::lB ps ms from rfl,jx]
   by_cases hx:x=p
   ·rw [if_pos hx] at e
    cases e
    subst hx
    rw [mM ps ms _ (List.nodup_cons.mp nd).1,if_neg hk]
    exact ⟨m0,if_pos rfl,r⟩
   ·rw [if_neg hx] at e
    exact ih (List.nodup_cons.mp nd).2 q e
end
section
variable {C:Cx} {k:Nat} {γ γ':Gh} {env:Env} {A:Around} {ρ ρ':List Addr} {H H':List HO} {s s':Shared}
noncomputable def oI:Flow→V
 | .ret v=>v
 | _=>.none
theorem iz {f:String} {ps:List String} {ss:Ss} {args:List V} {Q:V→List HO→Prop} {X:String→List HO→Prop} {fa:Addr} {o:Obj} {fd:FuncData} {body:List Stmt} (F:Fj C f ps ss fa o fd body) (hl:args.length=ps.length)
  (w:wSs (Calls C k) C.glo ss ⟨eD ps args,H⟩ (fun fl st=>Q (oI fl) st.H) fun c st=>X c st.H) (hX: ∀ c H',X c H'→ar H') {ms:List Value} {R:Result→Shared→Prop} (hr:bO (2*k+1+1) A γ) (I:Inv C γ ρ H s) (ra:aR s.heap ρ (Nl γ ρ H) args ms)
  (h: ∀ v mv H' ρ' s',Q v H'→Rel s'.heap ρ' (Nl γ ρ' H') v mv→Inv C γ ρ' H' s'→Stp ρ H s ρ' H' s'→R (.ok (.ret mv)) s')
  (hx: ∀ c ev H' ρ' s',X c H'→jd C s.heap s' ev c→Inv C γ ρ' H' s'→Stp ρ H s ρ' H' s'→R (.error ev) s'):codeAny C.M A (.call (.ref fa) ⟨ms,[]⟩) R s:=by
 have hlm:ms.length=ps.length:=by rw [← ra.length,hl]
 have hkinds: ∀ n,∀ x∈lB ps ms,fd.scope.names.lookup x.1=some .local∨(fd.scope.names.lookup x.1=some .cell∧((cellsFrom n fd.scope.names []).lookup x.1).isSome=true):=fun n x hx=>by
  obtain ⟨p,hp,e⟩:=rY hx
  rw [e]
  rcases F.params p hp with q | q
  ·exact .inl q
  ·exact .inr ⟨q,PySem.W.cellsFrom_some _ _ _ (.inl q)⟩
 refine codeAny_call_cells (by have:=hr.depth; unfold recursionLimit; exact lin [_,k] [(1,.a (.a (.v 0) (.a (.a (.m 2 (.v 1)) (.n 1)) (.n 1))) (.n 1),.n 900)] 1 (.a (.v 0) (.n 1)) (.n 1000) rfl this) (I.base _ _ F.obj) F.data (C.nolimit.keeps I.base) ?_ F.text (F.bind ms hlm) F.closure (hkinds _) (fun s₁ ic=>?_) F.co F.gen F.kind
 ·obtain ⟨c,oc,vs,t,e1,e2,e3,e4⟩:=F.code
  exact ⟨c,oc,vs,t,e1,I.base _ _ e2,e3,e4⟩
 generalize hL:s.heap.objs.size=L at ic ⊢
 have fresh: ∀ b,L≤b→s.heap.get? b=none:=fun b hb=>by
  cases e:s.heap.get? b with
  | none=>rfl
  | some o'=>exact absurd (Heap.lt_size e) (by rw [hL]; exact Nat.not_lt.mpr hb)
 obtain ⟨h1,tk,hs1⟩:=ic.toInCall.same
 have g:bP s s₁:=⟨ic.toInCall.keep,by rw [hs1],by rw [hs1]⟩
 let env:=callEnvC fd L fa
 let γ₁:Gh:=⟨fun b=>γ.h b∨b=L∨∃ n,env.cells.lookup n=some b,fun b=>γ.f b∨b=L,fun b q=>q.elim (fun q=>.inl (γ.fh b q)) fun q=>.inr (.inl q),γ.e,γ.b,fun b q=>.inl (γ.bh b q)⟩
 have new: ∀ b,γ₁.h b→γ.h b∨(s.heap.get? b=none∧∃ o,s₁.heap.get? b=some o):=fun b q=>by
  rcases q with q | rfl | ⟨n,q⟩
  ·exact .inl q
  ·exact .inr ⟨fresh _ (Nat.le_refl _),cy ic.toInCall.ns⟩
  ·refine .inr ⟨fresh _ (Nat.le_of_lt (ic.above n b (mem_of_lookup q))),?_⟩
   obtain ⟨o,e,_⟩:=ic.cell n b q
   exact ⟨o,e⟩
 have I1:Inv C γ₁ ρ H s₁:=I.holds g new (fun b q=>q.imp id fun e=>by rw [e]; exact fZ ic.toInCall.ns) (fun _ q=>q) fun _=>Iff.rfl
 have K1:cF s.heap ρ (Nl γ ρ H) s₁.heap ρ (Nl γ₁ ρ H):=fC g fun b q=>(new b q).imp id And.left
 have ra1:=ra.kept K1
 have F1:Fra γ₁ env ⟨eD ps args,H⟩ ρ s₁:=by
  refine ⟨F.kind,F.globals,F.builtins,I1.ghost_nl (.inr (.inl rfl)),.inr (.inl rfl),⟨_,ic.toInCall.ns,fun x v k _ q=>rF k ps F.nodup ra1 q⟩,fun n kn=>?_,fun n n' c q q'=>name_of_addr ic.apart (mem_of_lookup q) (mem_of_lookup q'),fun q=>I.ghost_new (fresh _ (Nat.le_refl _)) (γ.bh _ q),fun n c h=>⟨.inr (.inr ⟨n,h⟩),fun q=>I.ghost_new (fresh _ (Nat.le_of_lt (ic.above n c (mem_of_lookup h)))) (γ.bh _ q)⟩⟩
  have kn:fd.scope.names.lookup n=some .cell:=by
   rcases kn with q | q
   ·exact q
   ·exact absurd q (F.nofree n)
  obtain ⟨c,hc⟩:=Option.isSome_iff_exists.mp (PySem.W.cellsFrom_some (x:=n) fd.scope.names (L+1) [] (.inl kn))
  have hc':env.cells.lookup n=some c:=hc
  refine ⟨c,_,hc',⟨I1.ghost_nl (.inr (.inr ⟨n,hc'⟩)),.inr (.inr ⟨n,hc'⟩)⟩,ic.cell n c hc',fun y hy v q=>?_⟩
  subst hy
  exact rG (by show env.kindOf (y:Str)≠_; rw [show env.kindOf (y:Str)=some .cell from kn]; simp) ps F.nodup ra1 q
 obtain ⟨l0,hl0,_⟩:=hr.frs
 refine wpAny_mono (F.sound k env (A.deeper env) s₁ γ₁ ρ ⟨eD ps args,H⟩ _ _ rfl (hr.deeper env (fun _=>.inl) (fun _ q=>q) (by show fd.scope.kind≠.module; rw [F.kind]; decide) (L:=L) rfl (.inr rfl)) ⟨l0,Around.frames_deeper hl0⟩ I1 F1 w) (fun fl s' p=>?_) fun ev s' p=>?_
 rotate_left
 ·obtain ⟨c,st',ρ',q1,q2,q3,q4,q5⟩:=p
  obtain ⟨l,hl1,hl2⟩:=hr.frs
  have own: ∀ b,Own env b→s.heap.get? b=none:=fun b q=>by
   rcases q with rfl | ⟨n,_,q⟩
   ·exact fresh _ (Nat.le_refl _)
   ·exact fresh _ (Nat.le_of_lt (ic.above n b (mem_of_lookup q)))
  have back: ∀ a,s₁.heap.get? a=none→s.heap.get? a=none:=fun a q=>by
   cases e:s.heap.get? a with
   | none=>rfl
   | some o=>rw [g.keep _ _ e] at q; cases q
  unfold leaving
  refine wpAny_bind (zp (b:=s.heap) (L:=L) (Around.frames_deeper hl1) rfl (fun e he=>?_) q3.frm (fun a o e=>?_) (q2.imp (·.back back) (·.back back)) fun h' e T _ he hT xo sl x=>?_)
  ·rcases List.mem_cons.mp he with rfl | he
   ·exact ⟨by show fd.scope.kind≠.module; rw [F.kind]; decide,L,rfl,.inr rfl⟩
   ·obtain ⟨z1,L',z2,z3⟩:=hl2 e he
    exact ⟨z1,L',z2,.inl z3⟩
  ·cases z:s'.heap.get? a with
   | some o'=>exact ⟨o',rfl⟩
   | none=>have:=q5.back q3 q4 a z; rw [g.keep _ _ e] at this; cases this
  have I2:=q3.slip (hX c _ q1) (I.none_above he) (I.none_above hT) xo sl
  refine hx c ev st'.H ρ' _ q1 x (I2.drop (fun _=>.inl) (fun _=>.inl) (fun _ q=>q) (fun _=>Iff.rfl)) ⟨⟨(fun a o e n=>by
   obtain ⟨o',e1,al⟩:=q5.keep a o (g.keep _ _ e) n fun q=>by rw [own a q] at e; cases e
   obtain ⟨o'',e2,al2,_⟩:=sl.1 a o' e1 (fun z=>by rw [z,he] at e; cases e) fun z=>by rw [z,hT] at e; cases e
   exact ⟨o'',e2,al.trans al2⟩),(fun a q=>by
   by_cases ho:Own env a
   ·exact .inr (own a ho)
   ·rcases q5.live a ho q with z | z
    ·exact .inl z
    ·exact .inr (back a z)),q5.pre⟩⟩
 obtain ⟨f',st',ρ',q1,q2,q3,q4,q5⟩:=p
 have I2:Inv C γ ρ' st'.H s':=q3.drop (fun _=>.inl) (fun _=>.inl) (fun _ q=>q) (fun _=>Iff.rfl)
 have Kl:cF s'.heap ρ' (Nl γ₁ ρ' st'.H) s'.heap ρ' (Nl γ ρ' st'.H):=dF fun _=>.inl
 have own: ∀ b,Own env b→s.heap.get? b=none:=fun b q=>by
  rcases q with rfl | ⟨n,_,q⟩
  ·exact fresh _ (Nat.le_refl _)
  ·exact fresh _ (Nat.le_of_lt (ic.above n b (mem_of_lookup q)))
 have S2:Stp ρ H s ρ' st'.H s':=⟨⟨(fun a o e n=>by
   refine q5.keep a o (g.keep _ _ e) n fun q=>?_
   rw [own a q] at e; cases e),(fun a q=>by
   by_cases ho:Own env a
   ·exact .inr (own a ho)
   ·rcases q5.live a ho q with z | z
    ·exact .inl z
    ·refine .inr ?_
     cases e:s.heap.get? a with
     | none=>rfl
     | some o=>rw [g.keep _ _ e] at z; cases z),q5.pre⟩⟩
 cases q2 with
 | next=>exact h .none .none st'.H ρ' s' q1 .none I2 S2
 | brk=>exact h .none .none st'.H ρ' s' q1 .none I2 S2
 | cont=>exact h .none .none st'.H ρ' s' q1 .none I2 S2
 | ret r=>exact h _ _ st'.H ρ' s' q1 (r.kept Kl) I2 S2
theorem ao {f:String} {ps:List String} {ss:Ss} {args:List V} {v:V} (F:bc C f ps ss) (hl:args.length=ps.length)
  (w:wSs (Calls C k) C.glo ss ⟨eD ps args,H⟩ (fun fl st=>oI fl=v∧low H.length v∧st.H.take H.length=H) noX):Calls C (k+1) f args H (.ok v) H:=by
 obtain ⟨fa,o,fd,body,F⟩:=F
 intro A s γ ρ ms fa' hr I ra hfa
 have:fa'=fa:=by have:=F.mg; rw [hfa] at this; cases this; rfl
 subst this
 refine iz (Q:=fun u H'=>u=v∧low H.length v∧H'.take H.length=H) (X:=fun _ _=>False) F hl w (fun _ _ h=>h.elim) hr I ra (fun u mv H' ρ' s' q r I' S=>?_) fun _ _ _ _ _ h=>h.elim
 obtain ⟨rfl,q1,q2⟩:=q
 have S':=S.cut (n:=H.length) (by rw [I.len]; exact Nat.le_refl _)
 have I'':Inv C γ (ρ'.take H.length) (H'.take H.length) s':=I'.cut (fun z=>I.hq (q2▸z)) fun i o hi ho=>by
  have:H[i]?= some o:=by rw [← q2,List.getElem?_take,if_pos hi]; exact ho
  exact I.lowO this
 have r':=r.cut (n:=H.length) (N':=Nl γ (ρ'.take H.length) (H'.take H.length)) (fun a q=>q.imp dl id) q1
 rw [q2] at S' I'' r'
 exact ⟨_,r',I'',S'⟩
theorem ee {f:String} {ps:List String} {ss:Ss} {args:List V} {v:V} (F:bc C f ps ss) (hl:args.length=ps.length)
  (w:wSs (Calls C k) C.glo ss ⟨eD ps args,H⟩ (fun fl st=>oI fl=v∧st.H=H') noX):Calls C (k+1) f args H (.ok v) H':=by
 obtain ⟨fa,o,fd,body,F⟩:=F
 intro A s γ ρ ms fa' hr I ra hfa
 have:fa'=fa:=by have:=F.mg; rw [hfa] at this; cases this; rfl
 subst this
 refine iz (Q:=fun u H''=>u=v∧H''=H') (X:=fun _ _=>False) F hl w (fun _ _ h=>h.elim) hr I ra (fun u mv H'' ρ' s' q r I' S=>?_) fun _ _ _ _ _ h=>h.elim
 obtain ⟨rfl,rfl⟩:=q
 exact ⟨ρ',r,I',S⟩
theorem pj {f:String} {ps:List String} {ss:Ss} {args:List V} {c:String} (F:bc C f ps ss) (hl:args.length=ps.length) (hz:ar H)
  (w:wSs (Calls C k) C.glo ss ⟨eD ps args,H⟩ (fun _ _=>False) fun c' st=>c'=c∧ar st.H∧st.H.take H.length=H):Calls C (k+1) f args H (.err c) H:=by
 obtain ⟨fa,o,fd,body,F⟩:=F
 intro A s γ ρ ms fa' hr I ra hfa
 have:fa'=fa:=by have:=F.mg; rw [hfa] at this; cases this; rfl
 subst this
 refine iz (Q:=fun _ _=>False) (X:=fun c' H'=>c'=c∧ar H'∧H'.take H.length=H) F hl w (fun _ _ h=>h.2.1) hr I ra (fun _ _ _ _ _ h=>h.elim) fun c' ev H' ρ' s' hc x I' S=>?_
 obtain ⟨rfl,_,q2⟩:=hc
 have S':=S.cut (n:=H.length) (by rw [I.len]; exact Nat.le_refl _)
 have I'':Inv C γ (ρ'.take H.length) (H'.take H.length) s':=I'.cut (fun z=>I.hq (q2▸z)) fun i o hi ho=>by
  have:H[i]?= some o:=by rw [← q2,List.getElem?_take,if_pos hi]; exact ho
  exact I.lowO this
 rw [q2] at S' I''
 exact ⟨_,x,I'',S'⟩
end
end
noncomputable section
open PySem
section
variable (Φ:Orc) (G:String→Option V)
noncomputable def Ev (e:E) (st:St) (v:V) (st':St):Prop:=∀ (Q:V→St→Prop) (X:String→St→Prop),Q v st'→wE Φ G e st Q X
noncomputable def Evs (es:Es) (st:St) (vs:List V) (st':St):Prop:=∀ (Q:List V→St→Prop) (X:String→St→Prop),Q vs st'→wEs Φ G es st Q X
noncomputable def rQ (es:Es) (st:St) (b:Bool) (st':St):Prop:=∀ (Q:V→St→Prop) (X:String→St→Prop),Q (.bool b) st'→wJ Φ G es st Q X
noncomputable def BS (es:Es) (st:St) (b:Bool) (st':St):Prop:=∀ (Q:V→St→Prop) (X:String→St→Prop),Q (.bool b) st'→wOr Φ G es st Q X
end
inductive New (vs:List V) (st:St):V→St→Prop
 | lst:New vs st (.lst vs) st
 | loc:New vs st (.loc st.H.length) ⟨st.s,st.H++[.list vs]⟩
theorem New.w {vs:List V} {st st':St} {v:V} (n:New vs st v st') {Q:V→St→Prop} (q:Q v st'):kS vs st Q:=by
 cases n with
 | lst=>exact .inl q
 | loc=>exact .inr q
section
variable {Φ:Orc} {G:String→Option V} {st st' st₁ st₂ st₃:St} {e a b c i lo hi elt it:E} {es:Es} {v va vb vc vi:V} {vs xs ys:List V} {x f t k:String} {op op':CmpOp} {r r':Bool}
theorem mB:Ev Φ G .none st .none st:=fun _ _ q=>q
theorem mD:Ev Φ G (.bool r) st (.bool r) st:=fun _ _ q=>q
theorem ac {n:Int}:Ev Φ G (.int n) st (.int n) st:=fun _ _ q=>q
theorem aI {s:List Nat}:Ev Φ G (.str s) st (.str s) st:=fun _ _ q=>q
theorem aa (h:st.s x=some v):Ev Φ G (.var x) st v st:=fun _ _ q=>⟨v,h,.inl q⟩
theorem qY {j:Nat} (h:st.s x=some (.loc j)) (hH:st.H[j]?= some (.list vs)):Ev Φ G (.var x) st (.lst vs) ⟨st.s,st.H.set j .dead⟩:=fun _ _ q=>⟨_,h,.inr ⟨j,vs,rfl,hH,q⟩⟩
theorem zH (h:G x=some v):Ev Φ G (.glo x) st v st:=fun _ _ q=>⟨v,h,q⟩
theorem cg (h:Evs Φ G es st vs st'):Ev Φ G (.tup es) st (.tup vs) st':=fun _ X q=>h _ X q
theorem aM (h:Evs Φ G es st vs st₁) (n:New vs st₁ v st'):Ev Φ G (.list es) st v st':=fun _ X q=>h _ X (n.w q)
theorem af {o:Operator} (h₁:Ev Φ G a st va st₁) (h₂:Ev Φ G b st₁ vb st₂) (h:Bin o va vb v):Ev Φ G (.bin o a b) st v st₂:=fun _ X q=>h₁ _ X (h₂ _ X (.inl ⟨v,h,q⟩))
theorem tM (h₁:Ev Φ G a st va st₁) (h₂:Ev Φ G b st₁ vb st₂) (h₃:fY st₂.H va xs) (h₄:fY st₂.H vb ys) (hl:xs.length+ys.length≤16000000) (n:New (xs++ys) st₂ v st'):Ev Φ G (.bin .Add a b) st v st':=
 fun _ X q=>h₁ _ X (h₂ _ X (.inr ⟨xs,ys,rfl,h₃,h₄,hl,n.w q⟩))
theorem zG {n:Int} (h:Ev Φ G a st (.int n) st'):Ev Φ G (.neg a) st (.int (-n)) st':=fun _ X q=>h _ X ⟨n,rfl,q⟩
theorem tL (h:Ev Φ G a st (.bool r) st'):Ev Φ G (.not a) st (.bool (!r)) st':=fun _ X q=>h _ X ⟨r,rfl,q⟩
theorem cJ (h:Ev Φ G a st (.bool true) st'):Ev Φ G (.not a) st (.bool false) st':=tL h
theorem DG (h:Ev Φ G a st (.bool false) st'):Ev Φ G (.not a) st (.bool true) st':=tL h
theorem cv (h:rQ Φ G es st r st'):Ev Φ G (.and es) st (.bool r) st':=fun _ X q=>h _ X q
theorem gn (h:BS Φ G es st r st'):Ev Φ G (.or es) st (.bool r) st':=fun _ X q=>h _ X q
theorem kA:rQ Φ G .nil st true st:=fun _ _ q=>q
theorem dt (h₁:Ev Φ G e st (.bool true) st₁) (h₂:rQ Φ G es st₁ r st'):rQ Φ G (.cons e es) st r st':=fun _ X q=>h₁ _ X ⟨true,rfl,.inl ⟨rfl,h₂ _ X q⟩⟩
theorem iP (h₁:Ev Φ G e st (.bool false) st₁):rQ Φ G (.cons e es) st false st₁:=fun _ X q=>h₁ _ X ⟨false,rfl,.inr ⟨rfl,q⟩⟩
theorem dn:BS Φ G .nil st false st:=fun _ _ q=>q
theorem fv (h₁:Ev Φ G e st (.bool false) st₁) (h₂:BS Φ G es st₁ r st'):BS Φ G (.cons e es) st r st':=fun _ X q=>h₁ _ X ⟨false,rfl,.inr ⟨rfl,h₂ _ X q⟩⟩
theorem ip (h₁:Ev Φ G a st va st₁) (h₂:Ev Φ G b st₁ vb st₂) (h:Cmp st₂.H op va vb r):Ev Φ G (.cmp op a b) st (.bool r) st₂:=fun _ X q=>h₁ _ X (h₂ _ X ⟨r,h,q⟩)
theorem fE (h₁:Ev Φ G a st va st₁) (h₂:Ev Φ G b st₁ vb st₂) (h:Cmp st₂.H op va vb true) (h₃:Ev Φ G c st₂ vc st₃) (h':Cmp st₃.H op' vb vc r):Ev Φ G (.cmp2 op op' a b c) st (.bool r) st₃:=
 fun _ X q=>h₁ _ X (h₂ _ X ⟨true,h,.inl ⟨rfl,h₃ _ X ⟨r,h',q⟩⟩⟩)
theorem ai (h₁:Ev Φ G a st va st₁) (h₂:Ev Φ G i st₁ vi st₂) (h:Idx st₂.H va vi v):Ev Φ G (.idx a i) st v st₂:=fun _ X q=>h₁ _ X (h₂ _ X ⟨v,h,q⟩)
inductive Slc (st:St) (l h:Option Int):V→V→St→Prop
 | str (cs:List Nat):Slc st l h (.str cs) (.str (slice cs (gk cs.length l) (gF cs.length h))) st
 | seq {va v:V} {xs:List V} {st':St}:fY st.H va xs→New (slice xs (gk xs.length l) (gF xs.length h)) st v st'→Slc st l h va v st'
theorem Slc.w {l h:Option Int} (z:Slc st l h va v st') {Q:V→St→Prop} (q:Q v st'):wK va l h st Q:=by
 cases z with
 | str cs=>exact .inl ⟨cs,rfl,q⟩
 | seq h1 h2=>exact .inr ⟨_,h1,h2.w q⟩
theorem bJ {j:Int} (h₁:Ev Φ G a st va st₁) (o:hi.isOmit=false) (h₂:Ev Φ G hi st₁ (.int j) st₂) (z:Slc st₂ .none (some j) va v st'):Ev Φ G (.slc a .omit hi) st v st':=
 fun _ X q=>h₁ _ X (.inl ⟨rfl,.inr ⟨o,h₂ _ X ⟨j,rfl,z.w q⟩⟩⟩)
theorem eS {j:Int} (h₁:Ev Φ G a st va st₁) (o:lo.isOmit=false) (h₂:Ev Φ G lo st₁ (.int j) st₂) (z:Slc st₂ (some j) .none va v st'):Ev Φ G (.slc a lo .omit) st v st':=
 fun _ X q=>h₁ _ X (.inr ⟨o,h₂ _ X ⟨j,rfl,.inl ⟨rfl,z.w q⟩⟩⟩)
theorem iq {H':List HO} (h:Evs Φ G es st vs st₁) (hc:Φ f vs st₁.H (.ok v) H'):Ev Φ G (.call f es) st v ⟨st₁.s,H'⟩:=fun _ X q=>h _ X (.inl ⟨v,H',hc,q⟩)
theorem ah (h:Evs Φ G es st vs st₁) (hc:Φ f vs st₁.H (.ok v) st₁.H):Ev Φ G (.call f es) st v st₁:=iq h hc
theorem ay {g:BN} (h:Evs Φ G es st vs st₁) (hb:Blt st₁.H g vs v):Ev Φ G (.blt g es) st v st₁:=fun _ X q=>h _ X (.inl ⟨v,hb,q⟩)
theorem cu {g:BN} (h:Evs Φ G es st vs st₁) (hb:Aa st₁.H g vs xs) (n:New xs st₁ v st'):Ev Φ G (.blt g es) st v st':=fun _ X q=>h _ X (.inr ⟨xs,hb,n.w q⟩)
theorem cM (h:Ev Φ G a st va st₁) (hk:rX st₁.H va k) (e:rT k t=r):Ev Φ G (.isi a t) st (.bool r) st₁:=fun _ X q=>h _ X ⟨k,hk,e▸q⟩
theorem io {m:MN} (h₁:Ev Φ G a st va st₁) (hr:Rcv st₁.H va m) (h₂:Evs Φ G es st₁ vs st₂) (h:Mth st₂.H m va vs v):Ev Φ G (.mth m a es) st v st₂:=fun _ X q=>h₁ _ X ⟨hr,h₂ _ X (.inl ⟨v,h,q⟩)⟩
theorem cc {j:Nat} (h₁:Ev Φ G a st (.loc j) st₁) (hr:st₁.H[j]?= some (.list ys)) (h₂:Evs Φ G es st₁ [v] st₂) (hx:st₂.H[j]?= some (.list xs)) (hl:xs.length < 16000000):Ev Φ G (.mth .append a es) st .none ⟨st₂.s,st₂.H.set j (.list (xs++[v]))⟩:=
 fun _ X q=>h₁ _ X ⟨.append (.loc hr),h₂ _ X (.inr (.inl ⟨j,xs,v,⟨rfl,rfl,rfl⟩,hx,hl,q⟩))⟩
theorem zF {j:Nat} (h₁:Ev Φ G a st (.loc j) st₁) (hx:st₁.H[j]?= some (.list (xs++[v]))):Ev Φ G (.mth .pop a .nil) st v ⟨st₁.s,st₁.H.set j (.list xs)⟩:=fun _ X q=>h₁ _ X ⟨.pop (.loc hx),.inr (.inr (.inl ⟨j,xs,v,⟨rfl,rfl,rfl⟩,hx,q⟩))⟩
theorem qZ {j:Nat} {zs:List V} (h₁:Ev Φ G a st (.loc j) st₁) (hr:st₁.H[j]?= some (.list zs)) (h₂:Evs Φ G es st₁ [.lst ys] st₂) (hx:st₂.H[j]?= some (.list xs)) (hl:xs.length+ys.length < 16000000):Ev Φ G (.mth .extend a es) st .none ⟨st₂.s,st₂.H.set j (.list (xs++ys))⟩:=
 fun _ X q=>h₁ _ X ⟨.extend (.loc hr),h₂ _ X (.inr (.inr (.inr (.inr (.inl ⟨j,xs,ys,⟨rfl,rfl,rfl⟩,hx,hl,q⟩)))))⟩
theorem mC {m:MN} (h₁:Ev Φ G a st va st₁) (hr:Rcv st₁.H va m) (h₂:Evs Φ G es st₁ vs st₂) (h:DT m va vs xs) (n:New xs st₂ v st'):Ev Φ G (.mth m a es) st v st':=fun _ X q=>h₁ _ X ⟨hr,h₂ _ X (.inr (.inr (.inr (.inl ⟨xs,h,n.w q⟩))))⟩
theorem bK {j:Nat} {fs:List (String×V)} (h:Ev Φ G a st va st₁) (o:eF st₁.H va j fs) (e:fs.lookup x=some v):Ev Φ G (.attr a x) st v st₁:=fun _ X q=>h _ X ⟨j,fs,v,o,e,q⟩
theorem DH {j:Nat} {fs:List (String×V)} (h:Ev Φ G a st va st₁) (o:eF st₁.H va j fs):Ev Φ G (.isiS a) st (.bool true) st₁:=fun _ X q=>h _ X ⟨j,fs,o,q⟩
theorem gH {m:String} {j:Nat} {fs:List (String×V)} {H':List HO} (h₁:Ev Φ G a st va st₁) (o:eF st₁.H va j fs) (e:fs.lookup m=.none) (h₂:Evs Φ G es st₁ vs st₂) (hc:Φ f (va::vs) st₂.H (.ok v) H'):Ev Φ G (.mcall f m a es) st v ⟨st₂.s,H'⟩:=fun _ X q=>h₁ _ X ⟨⟨j,fs,o,e⟩,h₂ _ X (.inl ⟨v,H',hc,q⟩)⟩
theorem aV {m:String} {j:Nat} {fs:List (String×V)} (h₁:Ev Φ G a st va st₁) (o:eF st₁.H va j fs) (e:fs.lookup m=.none) (h₂:Evs Φ G es st₁ vs st₂) (hc:Φ f (va::vs) st₂.H (.ok v) st₂.H):Ev Φ G (.mcall f m a es) st v st₂:=gH h₁ o e h₂ hc
theorem qX {H':List HO} (h:Evs Φ G es st vs st₁) (hc:Φ "Store.__init__" (.loc (st₁.H.length+1)::vs) (st₁.H++[.attrs []]++[.obj st₁.H.length]) (.ok .none) H'):Ev Φ G (.make es) st (.loc (st₁.H.length+1)) ⟨st₁.s,H'⟩:=fun _ X q=>h _ X (.inl ⟨H',hc,q⟩)
theorem km:Ev Φ G .dict st (.loc st.H.length) ⟨st.s,st.H++[.dictS []]⟩:=fun _ _ q=>q
theorem aL:Evs Φ G .nil st [] st:=fun _ _ q=>q
theorem aE (h₁:Ev Φ G e st v st₁) (h₂:Evs Φ G es st₁ vs st'):Evs Φ G (.cons e es) st (v::vs) st':=fun _ X q=>h₁ _ X (h₂ _ X q)
theorem aJ (h₁:Ev Φ G e st v st'):Evs Φ G (.cons e .nil) st [v] st':=aE h₁ aL
theorem cz (h₁:Ev Φ G a st va st₁) (h₂:Ev Φ G b st₁ vb st'):Evs Φ G (.cons a (.cons b .nil)) st [va,vb] st':=aE h₁ (aJ h₂)
theorem kj (h₁:Ev Φ G a st va st₁) (h₂:Ev Φ G b st₁ vb st₂) (h₃:Ev Φ G c st₂ vc st'):Evs Φ G (.cons a (.cons b (.cons c .nil))) st [va,vb,vc] st':=aE h₁ (cz h₂ h₃)
theorem tb {α:Type} {f:V→St→(List V→St→Prop)→Prop} {K:List V→St→Prop} (g:α→V) (p:α→Bool) (q:α→V) (rs:List α): ∀ (acc:List V),
  (∀ r∈rs,∀ K':List V→St→Prop,K' (if p r then [q r] else []) st→f (g r) st K')→K (acc++(rs.filter p).map q) st→fG f (rs.map g) acc st K:=by
 induction rs with
 | nil=>intro acc _ kk; rw [show acc++List.map q (List.filter p [])=acc from List.append_nil _] at kk; exact kk
 | cons r rs ih=>
  intro acc h kk
  refine h r List.mem_cons_self _ (ih _ (fun u hu=>h u (List.mem_cons_of_mem _ hu)) ?_)
  rw [List.append_assoc]
  rw [List.filter_cons] at kk
  cases e:p r with
  | true=>rw [e,if_pos rfl] at kk; rw [if_pos rfl]; exact kk
  | false=>rw [e,if_neg Bool.false_ne_true] at kk; rw [if_neg Bool.false_ne_true]; exact kk
theorem bG {α:Type} {g q:α→V} {p:α→Bool} {rs:List α} (hi:Ev Φ G it st vi st₁) (hs:du vi (rs.map g)) (hc: ∀ r∈rs,Ev Φ G c (st₁.set x (g r)) (.bool (p r)) (st₁.set x (g r))) (he: ∀ r∈rs,p r=true→Ev Φ G elt (st₁.set x (g r)) (q r) (st₁.set x (g r)))
  (n:New ((rs.filter p).map q) st₁ v st'):Ev Φ G (.compIf elt x it c) st v st':=
 fun _ X qq=>hi _ X ⟨_,hs,tb g p q rs [] (fun r hr K' hK=>hc r hr _ _ (by
  cases e:p r with
  | true=>rw [e,if_pos rfl] at hK; exact .inl ⟨rfl,he r hr e _ _ hK⟩
  | false=>rw [e,if_neg Bool.false_ne_true] at hK; exact .inr ⟨rfl,hK⟩)) (n.w qq)⟩
theorem dg {α:Type} {g q:α→V} {rs:List α} (hi:Ev Φ G it st vi st₁) (hs:du vi (rs.map g)) (he: ∀ r∈rs,Ev Φ G elt (st₁.set x (g r)) (q r) (st₁.set x (g r))) (n:New (rs.map q) st₁ v st'):Ev Φ G (.compX elt x it) st v st':=
 fun _ X qq=>hi _ X (.inl ⟨_,hs,tb g (fun _=>true) q rs [] (fun r hr K' hK=>he r hr _ _ hK) (by rw [List.filter_eq_self.mpr fun _ _=>rfl]; exact n.w qq)⟩)
theorem rc {α:Type} {g q:α→V} {rs:List α} {j:Nat} (hi:Ev Φ G it st (.loc j) st₁) (hs:st₁.H[j]?= some (.list (rs.map g))) (he: ∀ r∈rs,Ev Φ G elt ((St.mk st₁.s (st₁.H.set j .dead)).set x (g r)) (q r) ((St.mk st₁.s (st₁.H.set j .dead)).set x (g r))):Ev Φ G (.compX elt x it) st (.lst (rs.map q)) st₁:=
 fun Q X qq=>hi _ X (.inr ⟨j,_,rfl,hs,tb g (fun _=>true) q rs [] (fun r hr K' hK=>he r hr _ _ hK) (.inl (by
  have lt:=(List.getElem?_eq_some_iff.mp hs).1
  refine ⟨List.getElem?_set_self lt,?_⟩
  rw [List.filter_eq_self.mpr fun _ _=>rfl]
  have e:(st₁.H.set j .dead).set j (.list (rs.map g))=st₁.H:=by rw [List.set_set,← (List.getElem?_eq_some_iff.mp hs).2,List.set_getElem_self]
  show Q (.lst ([]++rs.map q)) ⟨st₁.s,(st₁.H.set j .dead).set j (.list (rs.map g))⟩
  rw [e]; exact qq))⟩)
theorem rd {α:Type} {g q:α→V} {rs:List α} (hi:Ev Φ G it st vi st₁) (hs:du vi (rs.map g)) (he: ∀ r∈rs,Ev Φ G elt (st₁.set x (g r)) (q r) (st₁.set x (g r))) (n:New (rs.map q) st₁ v st'):Ev Φ G (.comp elt x it) st v st':=
 fun _ X qq=>hi _ X ⟨_,hs,tb g (fun _=>true) q rs [] (fun r hr K' hK=>he r hr _ _ hK) (by rw [List.filter_eq_self.mpr fun _ _=>rfl]; exact n.w qq)⟩
section
variable {ss tt ff bb:Ss} {Q:Flow→St→Prop} {X:String→St→Prop}
theorem aX {K:St→Prop} (h:K st):dj K Q .next st:=.inl ⟨rfl,h⟩
theorem bS {K:St→Prop} (h:Q (.ret v) st):dj K Q (.ret v) st:=.inr ⟨fun e=>Flow.noConfusion e,h⟩
theorem br (h:Q .next st):wSs Φ G .nil st Q X:=h
theorem aD (h:Ev Φ G e st v st₁) (w:wSs Φ G ss (st₁.set x v) Q X):wSs Φ G (.cons (.asg x e) ss) st Q X:=h _ _ (aX w)
theorem iZ (h:Ev Φ G e st v st₁) (w:wSs Φ G ss st₁ Q X):wSs Φ G (.cons (.ex e) ss) st Q X:=h _ _ (aX w)
theorem aQ (h:Ev Φ G e st v st₁) (w:Q (.ret v) st₁):wSs Φ G (.cons (.ret e) ss) st Q X:=h _ _ (bS w)
theorem dx (h:Ev Φ G c st (.bool true) st₁) (w:wSs Φ G tt st₁ (dj (fun st=>wSs Φ G ss st Q X) Q) X):wSs Φ G (.cons (.ite c tt ff) ss) st Q X:=h _ _ ⟨true,rfl,.inl ⟨rfl,w⟩⟩
theorem uS (h:Ev Φ G c st (.bool false) st₁) (w:wSs Φ G ff st₁ (dj (fun st=>wSs Φ G ss st Q X) Q) X):wSs Φ G (.cons (.ite c tt ff) ss) st Q X:=h _ _ ⟨false,rfl,.inr ⟨rfl,w⟩⟩
theorem aG (h:Ev Φ G c st (.bool false) st₁) (w:wSs Φ G ss st₁ Q X):wSs Φ G (.cons (.ite c tt .nil) ss) st Q X:=uS h (show dj (fun st=>wSs Φ G ss st Q X) Q .next st₁ from aX w)
theorem qd {j:Nat} {k:List Nat} {kvs:List (List Nat×V)} (h₁:Ev Φ G e st v st₁) (h₂:Ev Φ G a st₁ (.loc j) st₂) (h₃:Ev Φ G i st₂ (.str k) st₃) (hx:st₃.H[j]?= some (.dictS kvs)) (hl:kvs.length < 1000000) (w:wSs Φ G ss ⟨st₃.s,st₃.H.set j (.dictS (jU k v kvs))⟩ Q X):
  wSs Φ G (.cons (.asgSub a i e) ss) st Q X:=h₁ _ _ (h₂ _ _ (h₃ _ _ (.inl ⟨j,k,kvs,⟨rfl,rfl⟩,hx,hl,aX w⟩)))
theorem nq {j:Nat} {fs:List (String×V)} (h₁:Ev Φ G e st v st₁) (h₂:Ev Φ G a st₁ va st₂) (o:eF st₂.H va j fs) (hl:fs.length < 900) (w:wSs Φ G ss ⟨st₂.s,st₂.H.set j (.attrs (rV x v fs))⟩ Q X):wSs Φ G (.cons (.asgAttr a x e) ss) st Q X:=
 h₁ _ _ (h₂ _ _ ⟨j,fs,o,hl,aX w⟩)
noncomputable def EvX (Φ:Orc) (G:String→Option V) (e:E) (st:St) (c:String) (st':St):Prop:=∀ (Q:V→St→Prop) (X:String→St→Prop),X c st'→wE Φ G e st Q X
theorem sX {m c:String} {j:Nat} {fs:List (String×V)} {H':List HO} (h₁:Ev Φ G a st va st₁) (o:eF st₁.H va j fs) (e:fs.lookup m=.none) (h₂:Evs Φ G es st₁ vs st₂) (hc:Φ f (va::vs) st₂.H (.err c) H'):EvX Φ G (.mcall f m a es) st c ⟨st₂.s,H'⟩:=fun _ X q=>h₁ _ X ⟨⟨j,fs,o,e⟩,h₂ _ X (.inr ⟨c,H',hc,q⟩)⟩
theorem qW {m c:String} {j:Nat} {fs:List (String×V)} (h₁:Ev Φ G a st va st₁) (o:eF st₁.H va j fs) (e:fs.lookup m=.none) (h₂:Evs Φ G es st₁ vs st₂) (hc:Φ f (va::vs) st₂.H (.err c) st₂.H):EvX Φ G (.mcall f m a es) st c st₂:=sX h₁ o e h₂ hc
theorem Cm {c:String} (h:EvX Φ G e st c st₁) (w:X c st₁):wSs Φ G (.cons (.ex e) ss) st Q X:=h _ _ w
theorem uR {c:String} (nz:ar st.H) (w:X c st):wSs Φ G (.cons (.raise c) ss) st Q X:=⟨nz,w⟩
theorem Ck {hh:Ss} {c:String} {y:Option String} (nz:ar st.H) (w:wSs Φ G bb st (dj (fun st=>wSs Φ G ss st Q X) Q) fun c' st'=>(st'.H.length=st.H.length∧ar st'.H∧eC c c'=true)∧
   wSs Φ G hh (st'.exc c' y) (fun f st₂=>BQ st.H.length f∧st₂.H.take st.H.length=st.H∧dj (fun st=>wSs Φ G ss st Q X) Q f ((st₂.unx y).cut st.H.length)) noX):wSs Φ G (.cons (.try_ bb c y hh) ss) st Q X:=⟨nz,w⟩
theorem Cj (J:Nat→St→Prop) (n:Nat) (h0:J n st) (step: ∀ m st,J (m+1) st→∃ st₁,Ev Φ G c st (.bool true) st₁∧∀ Q':Flow→St→Prop,(∀ st',J m st'→Q' .next st'∧Q' .cont st')→wSs Φ G bb st₁ Q' noX)
  (done: ∀ st,J 0 st→∃ st₁,Ev Φ G c st (.bool false) st₁∧wSs Φ G ss st₁ Q X):wSs Φ G (.cons (.whl c bb) ss) st Q X:=by
 refine ⟨n+1,?_⟩
 have key: ∀ m st,J m st→mZ (fun st Q=>wT Φ G c st Q noX) (fun st Q=>wSs Φ G bb st Q noX) (m+1) st (dj (fun st=>wSs Φ G ss st Q X) Q):=by
  intro m
  induction m with
  | zero=>
   intro st h
   obtain ⟨st₁,e,w⟩:=done st h
   exact e _ _ ⟨false,rfl,.inr ⟨rfl,aX w⟩⟩
  | succ m ih=>
   intro st h
   obtain ⟨st₁,e,w⟩:=step m st h
   exact e _ _ ⟨true,rfl,.inl ⟨rfl,w _ fun st' h'=>⟨.inl ⟨rfl,ih st' h'⟩,.inr (.inl ⟨rfl,ih st' h'⟩)⟩⟩⟩
 exact key n st h0
theorem sV {f:V→St→(Flow→St→Prop)→Prop} (items:List V): ∀ (J:Nat→St→Prop) (st:St),J 0 st→
  (∀ i v st,items[i]?= some v→J i st→∀ Q':Flow→St→Prop,(∀ st',J (i+1) st'→Q' .next st'∧Q' .cont st')→f v st Q')→(∀ st,J items.length st→Q .next st)→sW f items st Q:=by
 induction items with
 | nil=>exact fun J st h0 _ fin=>fin st h0
 | cons v r ih=>exact fun J st h0 step fin=>step 0 v st rfl h0 _ fun st' h'=>
   have go:=ih (fun i=>J (i+1)) st' h' (fun i u st hu hj=>step (i+1) u st hu hj) fun st h=>fin st h
   ⟨.inl ⟨rfl,go⟩,.inr (.inl ⟨rfl,go⟩)⟩
theorem sU {f:V→St→(Flow→St→Prop)→Prop} {R:V→St→Prop} (hR: ∀ u st,R u st→Q (.ret u) st) (items:List V): ∀ (J:Nat→St→Prop) (st:St),J 0 st→
  (∀ i v st,items[i]?= some v→J i st→∀ Q':Flow→St→Prop,(∀ st',J (i+1) st'→Q' .next st'∧Q' .cont st')→(∀ u st',R u st'→Q' (.ret u) st')→f v st Q')→(∀ st,J items.length st→Q .next st)→sW f items st Q:=by
 induction items with
 | nil=>exact fun J st h0 _ fin=>fin st h0
 | cons v r ih=>exact fun J st h0 step fin=>step 0 v st rfl h0 _ (fun st' h'=>
   have go:=ih (fun i=>J (i+1)) st' h' (fun i u st hu hj=>step (i+1) u st hu hj) fun st h=>fin st h
   ⟨.inl ⟨rfl,go⟩,.inr (.inl ⟨rfl,go⟩)⟩) fun u st' h'=>.inr (.inr (.inr ⟨u,rfl,hR u st' h'⟩))
theorem yg {items:List V} (J:Nat→St→Prop) (R:V→St→Prop) (h:Ev Φ G it st vi st₁) (hs:du vi items) (h0:J 0 st₁)
  (step: ∀ i v st,items[i]?= some v→J i st→∀ Q':Flow→St→Prop,(∀ st',J (i+1) st'→Q' .next st'∧Q' .cont st')→(∀ u st',R u st'→Q' (.ret u) st')→wSs Φ G bb (st.set x v) Q' noX) (hR: ∀ u st,R u st→Q (.ret u) st) (w: ∀ st,J items.length st→wSs Φ G ss st Q X):wSs Φ G (.cons (.for_ x it bb) ss) st Q X:=
 h _ _ (.inl ⟨items,hs,sU (fun u st q=>bS (hR u st q)) items J _ h0 step fun st h=>aX (w st h)⟩)
theorem cW {items:List V} (J:Nat→St→Prop) (h:Ev Φ G it st vi st₁) (hs:du vi items) (h0:J 0 st₁)
  (step: ∀ i v st,items[i]?= some v→J i st→∀ Q':Flow→St→Prop,(∀ st',J (i+1) st'→Q' .next st'∧Q' .cont st')→wSs Φ G bb (st.set x v) Q' noX) (w: ∀ st,J items.length st→wSs Φ G ss st Q X):wSs Φ G (.cons (.for_ x it bb) ss) st Q X:=
 h _ _ (.inl ⟨items,hs,sV items J _ h0 step fun st h=>aX (w st h)⟩)
end
end
end
noncomputable section
open PySem
noncomputable def iH:Ss:=
 (.cons (.ret (.and (.cons (.isi (.var "_law_found") "int") (.cons (.not (.isi (.var "_law_found") "bool")) .nil))))
 .nil)
noncomputable def eZ:Ss:=
 (.cons (.ite (.cmp .Lt (.var "_law_k") (.blt .len (.cons (.var "_law_script") .nil))) (.cons (.ret (.idx (.var "_law_script") (.var "_law_k")))
 .nil) .nil)
 (.cons (.ret (.int 0))
 .nil))
section
variable {Φ:Orc} {G:String→Option V} {st st' st₁ st₂:St} {a b e:E} {es:Es} {va vb:V} {x:String} {op:CmpOp} {r r':Bool} {C:Cx} {k:Nat} {H:List HO}
theorem ag (h₁:Ev Φ G a st va st₁) (h₂:Ev Φ G b st₁ vb st₂) (h:Cmp st₂.H op va vb r) (e:r=r'):Ev Φ G (.cmp op a b) st (.bool r') st₂:=e▸ip h₁ h₂ h
theorem bw {v v':V} (h:Ev Φ G e st v st₁) (q:v=v'):Ev Φ G e st v' st₁:=q▸h
theorem bI {n:Nat} (h:n≤1000000):du (.rng 0 n 1) ((List.range n).map fun i:Nat=>V.int i):=by
 have e:(cB 0 n 1).map V.int=(List.range n).map fun i:Nat=>V.int i:=by
  rw [cB,List.map_map,show (((n:Int) - 0+1 - 1) / 1).toNat=n by rw [Int.sub_zero,Int.add_sub_cancel,Int.ediv_one,Int.toNat_natCast]]
  refine List.map_congr_left fun i _=>?_
  show V.int (0+1*(i:Int))=_
  rw [Int.one_mul,Int.zero_add]
 rw [← e]
 exact .rng (by decide) (by decide) ⟨Int.le_trans (by decide) (Int.natCast_nonneg n),Int.ofNat_le.mpr h⟩
theorem eA {n i:Nat} {v:V} (h:((List.range n).map fun i:Nat=>V.int (i:Int))[i]?= some v):i < n∧v=.int i:=by
 rw [List.getElem?_map] at h
 obtain ⟨j,h1,rfl⟩:=Option.map_eq_some_iff.mp h
 obtain ⟨h2,rfl⟩:=List.getElem?_eq_some_iff.mp h1
 rw [List.length_range] at h2
 exact ⟨h2,by rw [List.getElem_range]⟩
theorem au {v:V} {st:St} (h:st.H=H) (l:low H.length v):oI (.ret v)=v∧low H.length v∧st.H.take H.length=H:=⟨rfl,l,by rw [h,List.take_length]⟩
theorem rf (a b:Int):eqB (.int a) (.int b)=decide (a=b):=rfl
theorem fw {a:Int}:(!eqB (.int a) (.int a))=false:=by rw [rf,decide_eq_true rfl]; rfl
theorem mF (a:List Nat):eqB (.str a) (.str a)=true:=by
 show ((⟨a.toArray⟩:Str) == ⟨a.toArray⟩)=true
 exact beq_self_eq_true _
theorem bz {a b:Int}:Cmp H .NotEq (.int a) (.int b) (!eqB (.int a) (.int b)):=.ne (.self _) (.self _) rfl rfl
theorem rz (F:bc C "_law_whole" ["_law_found"] iH) (n:Int):Calls C (k+1) "_law_whole" [.int n] H (.ok (.bool true)) H:=
 ao F rfl (aQ (cv (dt (cM (aa rfl) (.int _) rfl) (dt (DG (cM (aa rfl) (.int _) rfl)) kA))) (au rfl trivial))
theorem rD (F:bc C "_law_cell_at" ["_law_script", "_law_k"] eZ) (ns:List Int) (j:Nat):Calls C (k+1) "_law_cell_at" [.lst (ns.map .int),.int j] H (.ok (.int (ns.getD j 0))) H:=by
 refine ao F rfl ?_
 by_cases h:j < ns.length
 ·refine dx (ag (aa rfl) (ay (aJ (aa rfl)) (.len (.seq (.lst _)))) (.lt _ _) (decide_eq_true (by rw [List.length_map]; exact Int.ofNat_lt.mpr h))) (aQ (ai (aa rfl) (aa rfl) (.seq (.lst _) (Int.natCast_nonneg j) ?_)) (bS (au rfl trivial)))
  rw [Int.toNat_natCast,List.getElem?_map,List.getD_eq_getElem?_getD,List.getElem?_eq_getElem h]; rfl
 ·refine aG (ag (aa rfl) (ay (aJ (aa rfl)) (.len (.seq (.lst _)))) (.lt _ _) (decide_eq_false (by rw [List.length_map]; exact fun q=>h (Int.ofNat_lt.mp q)))) (aQ (bw ac ?_) (au rfl trivial))
  rw [List.getD_eq_getElem?_getD,List.getElem?_eq_none (Nat.le_of_not_lt h)]; rfl
noncomputable def pr (t:Int×Int):V:=.tup [.int t.1,.int t.2]
theorem bV (n:Nat): ∀ ts:List (Int×Int),lows n (ts.map pr)
 | []=>trivial
 | _::r=>⟨⟨trivial,trivial,trivial⟩,bV n r⟩
theorem bC {t:Int×Int}:Idx H (pr t) (.int 0) (.int t.1):=.tup (by decide) rfl
theorem jX {t:Int×Int}:Idx H (pr t) (.int 1) (.int t.2):=.tup (by decide) rfl
theorem rL {v:V} {ts:List (Int×Int)} (h:fY H v (ts.map pr)) {i:Nat} (hi:i < ts.length):Idx H v (.int i) (pr ts[i]):=
 .seq h (Int.natCast_nonneg i) (by rw [Int.toNat_natCast,List.getElem?_map,List.getElem?_eq_getElem hi]; rfl)
end
end
noncomputable section
open PySem
noncomputable def dM:Ss:=
 (.cons (.asg "ahead" (.compIf (.var "thing") "thing" (.var "things") (.cmp .Lt (.idx (.var "thing") (.int 0)) (.var "name"))))
 (.cons (.ret (.bin .Add (.bin .Add (.var "ahead") (.list (.cons (.tup (.cons (.var "name") (.cons (.var "value") .nil))) .nil))) (.compIf (.var "thing") "thing" (.var "things") (.cmp .Gt (.idx (.var "thing") (.int 0)) (.var "name")))))
 .nil))
section
variable {C:Cx} {k:Nat} {H:List HO}
noncomputable def ce (ts:List (Int×Int)) (n v:Int):List (Int×Int):=ts.filter (fun t=>decide (t.1 < n))++[(n,v)]++ts.filter (fun t=>decide (n < t.1))
theorem kH (ts:List (Int×Int)) (n v:Int):(ce ts n v).length≤ts.length+1:=by
 rw [ce,List.length_append,List.length_append,List.length_singleton]
 induction ts with
 | nil=>exact Nat.le_refl _
 | cons t ts ih=>
  rw [List.filter_cons,List.filter_cons]
  by_cases h:t.1 < n
  ·rw [if_pos (decide_eq_true h),if_neg (by rw [decide_eq_false (Int.not_lt.mpr (Int.le_of_lt h))]; exact Bool.false_ne_true)]
   rw [List.length_cons,List.length_cons]; exact li [_,_,_] [([1,0,2],[3,0])] [1,0,0,2] [3,0,0] rfl ih
  ·rw [if_neg (by rw [decide_eq_false h]; exact Bool.false_ne_true),List.length_cons]
   split
   ·rw [List.length_cons]; exact li [_,_,_] [([1,0,2],[3,0])] [1,0,2,0] [3,0,0] rfl ih
   ·exact li [_,_,_] [([1,0,2],[3,0])] [1,0,2] [3,0,0] rfl ih
section
variable {Q:Flow→St→Prop}
theorem pJ (ts:List (Int×Int)) (n v:Int) (hl:ts.length≤1000000) {u:V} {st':St}
  (nw:New ((ce ts n v).map pr) ((St.mk (eD ["things", "name", "value"] [.lst (ts.map pr),.int n,.int v]) H).set "ahead" (.lst ((ts.filter fun t=>decide (t.1 < n)).map pr))) u st') (hQ:Q (.ret u) st'):
  wSs (Calls C k) C.glo dM ⟨eD ["things", "name", "value"] [.lst (ts.map pr),.int n,.int v],H⟩ Q noX:=by
 have l1:=List.length_filter_le (fun t:Int×Int=>decide (t.1 < n)) ts
 have l2:=List.length_filter_le (fun t:Int×Int=>decide (n < t.1)) ts
 rw [ce,List.map_append,List.map_append] at nw
 refine aD (bG (g:=pr) (q:=pr) (p:=fun t=>decide (t.1 < n)) (rs:=ts) (aa rfl) (.lst _) (fun t _=>ip (ai (aa rfl) ac bC) (aa rfl) (.lt _ _)) (fun t _ _=>aa rfl) .lst) ?_
 refine aQ (tM (tM (aa rfl) (aM (aJ (cg (cz (aa rfl) (aa rfl)))) .lst) (.lst _) (.lst _) ?_ .lst)
  (bG (g:=pr) (q:=pr) (p:=fun t=>decide (n < t.1)) (rs:=ts) (aa rfl) (.lst _) (fun t _=>ip (ai (aa rfl) ac bC) (aa rfl) (.gt _ _)) (fun t _ _=>aa rfl) .lst) (.lst _) (.lst _) ?_ nw) hQ
 ·rw [List.length_map,List.length_singleton]; exact lin [_,_] [(1,.v 1,.n 1000000),(1,.v 0,.v 1)] 1 (.a (.v 0) (.n 1)) (.n 16000000) rfl hl l1
 ·rw [List.length_append,List.length_map,List.length_singleton,List.length_map]; exact lin [_,_,_] [(2,.v 2,.n 1000000),(1,.v 0,.v 2),(1,.v 1,.v 2)] 1 (.a (.a (.v 0) (.n 1)) (.v 1)) (.n 16000000) rfl hl l1 l2
end
theorem zI (F:bc C "with_thing" ["things", "name", "value"] dM) (ts:List (Int×Int)) (n v:Int) (hl:ts.length≤1000000):
  Calls C (k+1) "with_thing" [.lst (ts.map pr),.int n,.int v] H (.ok (.lst ((ce ts n v).map pr))) H:=ao F rfl (pJ ts n v hl .lst (au rfl (bV _ _)))
noncomputable def ew (ts us:List (Int×Int)):List (Int×Int):=us.foldl (fun acc t=>ce acc t.1 t.2) ts
theorem qG (us:List (Int×Int)): ∀ ts:List (Int×Int),(ew ts us).length≤ts.length+us.length:=by
 induction us with
 | nil=>exact fun ts=>Nat.le_refl _
 | cons u us ih=>
  intro ts
  have h1:=ih (ce ts u.1 u.2)
  have h2:=kH ts u.1 u.2
  rw [List.length_cons]
  exact Nat.le_trans h1 (by exact li [_,_,_] [([1],[3,0])] [1,2] [3,2,0] rfl h2)
theorem sr (cs:List Nat) (c:Nat):slice (cs++[c]) (gk (cs++[c]).length none) (gF (cs++[c]).length (some (-1)))=cs:=by
 rw [List.length_append,List.length_singleton]
 show ((cs++[c]).take (cut (cs.length+1) (-1))).drop 0=cs
 rw [List.drop_zero,cut,if_pos (by decide),show (-1+((cs.length+1:Nat):Int)).toNat=cs.length by lia,List.take_left]
section
variable (H) (ts us:List (Int×Int))
end
end
end
noncomputable section
open PySem
section
variable {C:Cx} {k:Nat} {H:List HO}
noncomputable def bit (b:Bool):Nat:=bif b then 49 else 48
noncomputable def b01 (b:Bool):Int:=if b then 1 else 0
noncomputable def ji (p:Int×List Nat) (w:Int):Int×List Nat:=(p.1 - w*b01 (decide (w≤p.1)),p.2++[bit (decide (w≤p.1))])
noncomputable def worths:List Int:=[128,64,32,16,8,4,2,1]
noncomputable def oH (m:Int) (i:Nat):Int×List Nat:=(worths.take i).foldl ji (m,[])
noncomputable def sgn (n:Int):List Nat:=(oH ((171*n+37) % 256) 8).2
theorem qa (ws:List Int): ∀ p:Int×List Nat,(∀ c∈p.2,c=48∨c=49)→(ws.foldl ji p).2.length=p.2.length+ws.length∧∀ c∈(ws.foldl ji p).2,c=48∨c=49:=by
 induction ws with
 | nil=>exact fun p h=>⟨rfl,h⟩
 | cons w ws ih=>
  intro p h
  obtain ⟨h1,h2⟩:=ih (ji p w) fun c hc=>by
   rcases List.mem_append.mp hc with hc | hc
   ·exact h c hc
   ·rw [List.mem_singleton.mp hc]
    cases decide (w≤p.1)
    ·exact .inl rfl
    ·exact .inr rfl
  refine ⟨?_,h2⟩
  rw [List.foldl_cons,h1,ji,List.length_append,List.length_singleton,List.length_cons,Nat.add_assoc,Nat.add_comm 1]
theorem qc (m:Int) (i:Nat) (h:i≤8):(oH m i).2.length=i∧∀ c∈(oH m i).2,c=48∨c=49:=by
 obtain ⟨h1,h2⟩:=qa (worths.take i) (m,[]) fun c hc=>by cases hc
 refine ⟨?_,h2⟩
 rw [oH,h1,List.length_take,Nat.min_eq_left (show i≤worths.length from h)]; exact Nat.zero_add i
theorem ju (b:Bool):aw (b01 b)=[bit b]:=by cases b<;>decide
theorem rK (b:Bool):(b01 b).natAbs < 2 ^ 63:=by cases b<;>decide
theorem jC (b:Bool):(b01 b).natAbs < 10 ^ 100:=by cases b<;>decide
theorem dZ (a b:List Nat):eqB (.str a) (.str b)=decide (a=b):=by
 show ((⟨a.toArray⟩:Str) == ⟨b.toArray⟩)=_
 rw [Bool.eq_iff_iff,beq_iff_eq,decide_eq_true_eq]
 constructor
 ·intro h
  have h:a.toArray=b.toArray:=congrArg Str.cps h
  exact congrArg Array.toList h
 ·rintro rfl; rfl
theorem vX (a b:Int):leV (.int a) (.int b)=decide (a≤b):=rfl
theorem bU {α:Type} (xs:List α) (n:Nat):slice xs (gk xs.length none) (gF xs.length (some (n:Int)))=xs.take n:=by
 show (xs.take (cut xs.length n)).drop 0=_
 rw [List.drop_zero,cut,if_neg (by lia),Int.toNat_natCast]
 by_cases h:n≤xs.length
 ·rw [Nat.min_eq_left h]
 ·rw [Nat.min_eq_right (by exact li [_,n] [([1,0],[2])] [1] [2] rfl (l_n h)),List.take_length,List.take_of_length_le (by exact li [_,n] [([1,0],[2])] [1] [2] rfl (l_n h))]
end
end
noncomputable section
open PySem
abbrev Up (ts:List (Int×Int)):Prop:=ts.Pairwise fun a b=>a.1 < b.1
theorem jG {ts:List (Int×Int)} (h:Up ts) (n v:Int):Up (ce ts n v):=by
 have f1: ∀ t∈ts.filter (fun t=>decide (t.1 < n)),t.1 < n:=fun t ht=>of_decide_eq_true (List.mem_filter.mp ht).2
 have f2: ∀ t∈ts.filter (fun t=>decide (n < t.1)),n < t.1:=fun t ht=>of_decide_eq_true (List.mem_filter.mp ht).2
 refine List.pairwise_append.mpr ⟨List.pairwise_append.mpr ⟨h.filter _,List.pairwise_singleton _ _,fun a ha b hb=>?_⟩,h.filter _,fun a ha b hb=>?_⟩
 ·rw [List.mem_singleton.mp hb]; exact f1 a ha
 ·rcases List.mem_append.mp ha with ha | ha
  ·exact Int.lt_trans (f1 a ha) (f2 b hb)
  ·rw [List.mem_singleton.mp ha]; exact f2 b hb
theorem jf {ts:List (Int×Int)} {n v:Int} (h: ∀ t∈ts,t.1≠n):(ce ts n v).Perm (ts++[(n,v)]):=by
 have key:(ts.filter (fun t=>decide (t.1 < n))++ts.filter (fun t=>decide (n < t.1))).Perm ts:=by
  have e:ts.filter (fun t=>decide (n < t.1))=ts.filter (fun t=>!decide (t.1 < n)):=List.filter_congr fun t ht=>by
   have:=h t ht
   by_cases q:t.1 < n
   ·rw [decide_eq_true q,decide_eq_false (Int.not_lt.mpr (Int.le_of_lt q))]; rfl
   ·rw [decide_eq_false q,decide_eq_true (by lia)]; rfl
  rw [e]; exact List.filter_append_perm _ _
 rw [ce,List.append_assoc]
 refine (List.Perm.append_left _ List.perm_append_comm).trans ?_
 rw [← List.append_assoc]
 exact key.append_right _
theorem wc (us:List (Int×Int)): ∀ ts:List (Int×Int),Up ts→(∀ u∈us,∀ t∈ts,t.1≠u.1)→us.Pairwise (fun a b=>a.1≠b.1)→Up (ew ts us)∧(ew ts us).Perm (ts++us):=by
 induction us with
 | nil=>exact fun ts h _ _=>⟨h,by rw [List.append_nil]; exact .refl _⟩
 | cons u us ih=>
  intro ts h1 h2 h3
  have pw:=jf (v:=u.2) (h2 u List.mem_cons_self)
  obtain ⟨h4,h5⟩:=ih (ce ts u.1 u.2) (jG h1 _ _) (fun w hw t ht=>by
   rcases List.mem_append.mp (pw.subset ht) with q | q
   ·exact h2 w (List.mem_cons_of_mem _ hw) t q
   ·rw [List.mem_singleton.mp q]; exact (List.pairwise_cons.mp h3).1 w hw) (List.pairwise_cons.mp h3).2
  refine ⟨h4,h5.trans ?_⟩
  have:=pw.append_right us
  rw [List.append_assoc] at this
  exact this
theorem zv {a b:Int×Int} (h:a.1 < b.1):leV (pr a) (pr b)=true:=by
 show (if eqB (.int a.1) (.int b.1) then _ else leV (.int a.1) (.int b.1))=true
 rw [rf,decide_eq_false (fun e=>by rw [e] at h; exact Int.lt_irrefl _ h),if_neg Bool.false_ne_true,vX]
 exact decide_eq_true (Int.le_of_lt h)
end
noncomputable section
open PySem
noncomputable def sAt (n:Int) (i:Nat):Nat:=(sgn n).getD i 0
theorem hJ (n:Int):(sgn n).length=8∧∀ c∈sgn n,c=48∨c=49:=qc _ 8 (Nat.le_refl _)
theorem lQ (n:Int) {i:Nat} (h:i < 8):(sgn n)[((i:Nat):Int).toNat]?= some (sAt n i):=by
 have h':i < (sgn n).length:=(hJ n).1▸h
 rw [Int.toNat_natCast,sAt,List.getD_eq_getElem?_getD,List.getElem?_eq_getElem h']; rfl
theorem uT (n:Int) {i:Nat} (h:i < 8):sAt n i=48∨sAt n i=49:=(hJ n).2 _ (List.mem_of_getElem? (lQ n h))
theorem mE (a b:Nat):eqB (.str [a]) (.str [b])=decide (a=b):=by
 rw [dZ,Bool.eq_iff_iff,decide_eq_true_eq,decide_eq_true_eq]
 exact ⟨fun h=>(List.cons.inj h).1,fun h=>h▸rfl⟩
noncomputable def half (i c:Nat) (ts:List (Int×Int)):List (Int×Int):=ts.filter fun t=>decide (sAt t.1 i=c)
end
noncomputable section
abbrev Ts:=List (Int×Int)
abbrev Rm:=List Nat×Ts
noncomputable def dY (b:Nat):Nat→List Nat→Ts→List Rm
 | 0=>fun bs ts=>[(bs,ts)]
 | n+1=>fun bs ts=>if ts.length≤b then [(bs,ts)] else dY b n (bs++[48]) (half bs.length 48 ts)++dY b n (bs++[49]) (half bs.length 49 ts)
theorem ik {b n:Nat} {bs:List Nat} {ts:Ts} (h:ts.length≤b):dY b n bs ts=[(bs,ts)]:=by
 cases n with
 | zero=>rfl
 | succ n=>exact if_pos h
theorem lb {b n:Nat} {bs:List Nat} {ts:Ts} (h: ¬ ts.length≤b):dY b (n+1) bs ts=dY b n (bs++[48]) (half bs.length 48 ts)++dY b n (bs++[49]) (half bs.length 49 ts):=if_neg h
theorem bX {b:Nat} {P:Nat→List Nat→Ts→List Rm→Prop} (h0: ∀ bs ts,P 0 bs ts [(bs,ts)]) (h1: ∀ n bs ts,ts.length≤b→P (n+1) bs ts [(bs,ts)])
  (h2: ∀ n bs ts x y,¬ ts.length≤b→x=dY b n (bs++[48]) (half bs.length 48 ts)→y=dY b n (bs++[49]) (half bs.length 49 ts)→P n (bs++[48]) (half bs.length 48 ts) x→P n (bs++[49]) (half bs.length 49 ts) y→P (n+1) bs ts (x++y)): ∀ n bs ts,P n bs ts (dY b n bs ts):=by
 intro n
 induction n with
 | zero=>exact h0
 | succ n ih=>
  intro bs ts
  by_cases h:ts.length≤b
  ·rw [ik h]; exact h1 n bs ts h
  ·rw [lb h]; exact h2 n bs ts _ _ h rfl rfl (ih _ _) (ih _ _)
theorem jW {bs w:List Nat} {c:Nat} (h:bs++[c] <+: w):bs <+: w:=(List.prefix_append bs [c]).trans h
theorem eP {b:Nat}: ∀ n bs ts,∀ x∈dY b n bs ts,bs <+: x.1:=
 bX (P:=fun _ bs _ l=>∀ x∈l,bs <+: x.1) (fun bs ts x h=>by rw [List.mem_singleton.mp h]; exact List.prefix_refl _) (fun n bs ts _ x h=>by rw [List.mem_singleton.mp h]; exact List.prefix_refl _)
  fun n bs ts x y _ _ _ h1 h2 z hz=>(List.mem_append.mp hz).elim (fun q=>jW (h1 z q)) fun q=>jW (h2 z q)
theorem lc {b:Nat}: ∀ n bs ts,(∀ c∈bs,c=48∨c=49)→∀ x∈dY b n bs ts,x.1.length≤bs.length+n∧∀ c∈x.1,c=48∨c=49:=by
 refine bX (P:=fun n bs _ l=>(∀ c∈bs,c=48∨c=49)→∀ x∈l,x.1.length≤bs.length+n∧∀ c∈x.1,c=48∨c=49) (fun bs ts hc x h=>?_) (fun n bs ts _ hc x h=>?_) fun n bs ts x y _ _ _ h1 h2 hc z hz=>?_
 ·rw [List.mem_singleton.mp h]; exact ⟨Nat.le_refl _,hc⟩
 ·rw [List.mem_singleton.mp h]; exact ⟨Nat.le_add_right _ _,hc⟩
 ·have key: ∀ d,(d=48∨d=49)→∀ c∈bs++[d],c=48∨c=49:=fun d hd c h=>(List.mem_append.mp h).elim (hc c) fun q=>by rw [List.mem_singleton.mp q]; exact hd
  rcases List.mem_append.mp hz with q | q
  ·have:=h1 (key 48 (.inl rfl)) z q
   rw [List.length_append,List.length_singleton] at this
   exact ⟨by exact li [_,_,n] [([1],[2,0,3])] [1] [2,3,0] rfl this.1,this.2⟩
  ·have:=h2 (key 49 (.inr rfl)) z q
   rw [List.length_append,List.length_singleton] at this
   exact ⟨by exact li [_,_,n] [([1],[2,0,3])] [1] [2,3,0] rfl this.1,this.2⟩
noncomputable def uc (a b:List Nat):Prop:=∃ p r r',a=p++48::r∧b=p++49::r'
theorem la {b:Nat}: ∀ n bs ts,(dY b n bs ts).Pairwise fun x y=>uc x.1 y.1:=by
 refine bX (P:=fun _ _ _ l=>l.Pairwise fun x y=>uc x.1 y.1) (fun _ _=>List.pairwise_singleton _ _) (fun _ _ _ _=>List.pairwise_singleton _ _) fun n bs ts x y _ hx hy h1 h2=>?_
 refine List.pairwise_append.mpr ⟨h1,h2,fun u hu v hv=>?_⟩
 subst hx hy
 obtain ⟨r,hr⟩:=eP _ _ _ u hu
 obtain ⟨r',hr'⟩:=eP _ _ _ v hv
 exact ⟨bs,r,r',by rw [← hr,List.append_assoc]; rfl,by rw [← hr',List.append_assoc]; rfl⟩
theorem uc.not_pre {a b w:List Nat} (h:uc a b) (ha:a <+: w) (hb:b <+: w):False:=by
 obtain ⟨p,r,r',rfl,rfl⟩:=h
 obtain ⟨u,hu⟩:=ha
 obtain ⟨v,hv⟩:=hb
 rw [← hv,List.append_assoc,List.append_assoc] at hu
 have:=List.append_cancel_left hu
 cases this
theorem uc.ne {a b:List Nat} (h:uc a b):a≠b:=fun e=>h.not_pre (w:=b) (e▸List.prefix_refl _) (List.prefix_refl _)
theorem uc.lt {a b:List Nat} (h:uc a b):a < b:=by
 obtain ⟨p,r,r',rfl,rfl⟩:=h
 induction p with
 | nil=>exact List.cons_lt_cons_iff.mpr (.inl (by decide))
 | cons c p ih=>exact List.cons_lt_cons_iff.mpr (.inr ⟨rfl,ih⟩)
theorem qe {n:Int} {bs:List Nat} (h:bs <+: sgn n) (hl:bs.length < 8) (c:Nat):sAt n bs.length=c ↔ bs++[c] <+: sgn n:=by
 obtain ⟨r,hr⟩:=h
 cases r with
 | nil=>rw [List.append_nil] at hr; have:=(hJ n).1; rw [← hr] at this; exact (l_z (lin [_] [(1,.a (.v 0) (.n 1),.n 8),(1,.n 8,.v 0)] 0 (.n 1) (.n 0) rfl hl (l_s this))).elim
 | cons d r=>
  have e:sAt n bs.length=d:=by rw [sAt,List.getD_eq_getElem?_getD,← hr,List.getElem?_append_right (Nat.le_refl _),Nat.sub_self]; rfl
  rw [e,← hr,List.prefix_append_right_inj,List.singleton_prefix_cons_iff]
  exact eq_comm
noncomputable def InP (bs:List Nat) (ts:Ts):Prop:=∀ t∈ts,bs <+: sgn t.1
theorem dH {bs:List Nat} {ts:Ts} (h:InP bs ts) (hl:bs.length < 8) (c:Nat):InP (bs++[c]) (half bs.length c ts):=fun t ht=>
 (qe (h t (List.mem_filter.mp ht).1) hl c).mp (of_decide_eq_true (List.mem_filter.mp ht).2)
noncomputable def at_ (bs:List Nat) (ts:Ts):Ts:=ts.filter fun t=>bs.isPrefixOf (sgn t.1)
theorem mQ {bs:List Nat} {ts:Ts} (h:InP bs ts):at_ bs ts=ts:=List.filter_eq_self.mpr fun t ht=>List.isPrefixOf_iff_prefix.mpr (h t ht)
theorem mR {bs x:List Nat} {ts:Ts} (h:InP bs ts) (hl:bs.length < 8) {c:Nat} (hx:bs++[c] <+: x):at_ x (half bs.length c ts)=at_ x ts:=by
 rw [at_,at_,half,List.filter_filter]
 refine List.filter_congr fun t ht=>?_
 by_cases q:x <+: sgn t.1
 ·rw [List.isPrefixOf_iff_prefix.mpr q,decide_eq_true ((qe (h t ht) hl c).mpr (hx.trans q))]; rfl
 ·rw [Bool.eq_false_iff.mpr fun z=>q (List.isPrefixOf_iff_prefix.mp z)]; rfl
theorem qN {b:Nat}: ∀ n bs ts,bs.length+n=8→InP bs ts→∀ x∈dY b n bs ts,x.2=at_ x.1 ts:=by
 refine bX (P:=fun n bs ts l=>bs.length+n=8→InP bs ts→∀ x∈l,x.2=at_ x.1 ts) (fun bs ts _ hi x h=>?_) (fun n bs ts _ _ hi x h=>?_) fun n bs ts x y _ hx hy h1 h2 hl hi z hz=>?_
 ·rw [List.mem_singleton.mp h,mQ hi]
 ·rw [List.mem_singleton.mp h,mQ hi]
 ·have hl':bs.length < 8:=by exact lin [_,n] [(1,.a (.v 0) (.a (.v 1) (.n 1)),.n 8)] 1 (.a (.v 0) (.n 1)) (.n 8) rfl (l_e hl)
  subst hx hy
  rcases List.mem_append.mp hz with q | q
  ·rw [h1 (by rw [List.length_append,List.length_singleton]; exact l_a (lin [_,n] [(1,.a (.v 0) (.a (.v 1) (.n 1)),.n 8)] 1 (.a (.a (.v 0) (.n 1)) (.v 1)) (.n 8) rfl (l_e hl)) (lin [_,n] [(1,.n 8,.a (.v 0) (.a (.v 1) (.n 1)))] 1 (.n 8) (.a (.a (.v 0) (.n 1)) (.v 1)) rfl (l_s hl))) (dH hi hl' _) z q,mR hi hl' (eP _ _ _ z q)]
  ·rw [h2 (by rw [List.length_append,List.length_singleton]; exact l_a (lin [_,n] [(1,.a (.v 0) (.a (.v 1) (.n 1)),.n 8)] 1 (.a (.a (.v 0) (.n 1)) (.v 1)) (.n 8) rfl (l_e hl)) (lin [_,n] [(1,.n 8,.a (.v 0) (.a (.v 1) (.n 1)))] 1 (.n 8) (.a (.a (.v 0) (.n 1)) (.v 1)) rfl (l_s hl))) (dH hi hl' _) z q,mR hi hl' (eP _ _ _ z q)]
theorem qM {i:Nat} (h:i < 8) (ts:Ts):(half i 48 ts++half i 49 ts).Perm ts:=by
 have e:half i 49 ts=ts.filter fun t=>!decide (sAt t.1 i=48):=List.filter_congr fun t _=>by
  rcases uT t.1 h with q | q<;>rw [q]<;>rfl
 rw [e]; exact List.filter_append_perm _ _
theorem ij {b:Nat}: ∀ n bs ts,bs.length+n=8→((dY b n bs ts).flatMap (·.2)).Perm ts:=by
 refine bX (P:=fun n bs ts l=>bs.length+n=8→(l.flatMap (·.2)).Perm ts) (fun bs ts _=>?_) (fun n bs ts _ _=>?_) fun n bs ts x y _ _ _ h1 h2 hl=>?_
 ·rw [List.flatMap_singleton]
 ·rw [List.flatMap_singleton]
 ·rw [List.flatMap_append]
  exact ((h1 (by rw [List.length_append,List.length_singleton]; exact l_a (lin [_,n] [(1,.a (.v 0) (.a (.v 1) (.n 1)),.n 8)] 1 (.a (.a (.v 0) (.n 1)) (.v 1)) (.n 8) rfl (l_e hl)) (lin [_,n] [(1,.n 8,.a (.v 0) (.a (.v 1) (.n 1)))] 1 (.n 8) (.a (.a (.v 0) (.n 1)) (.v 1)) rfl (l_s hl)))).append (h2 (by rw [List.length_append,List.length_singleton]; exact l_a (lin [_,n] [(1,.a (.v 0) (.a (.v 1) (.n 1)),.n 8)] 1 (.a (.a (.v 0) (.n 1)) (.v 1)) (.n 8) rfl (l_e hl)) (lin [_,n] [(1,.n 8,.a (.v 0) (.a (.v 1) (.n 1)))] 1 (.n 8) (.a (.a (.v 0) (.n 1)) (.v 1)) rfl (l_s hl))))).trans (qM (by exact lin [_,n] [(1,.a (.v 0) (.a (.v 1) (.n 1)),.n 8)] 1 (.a (.v 0) (.n 1)) (.n 8) rfl (l_e hl)) ts)
theorem ez {b:Nat}: ∀ n bs ts,dY b n bs ts≠[]:=bX (P:=fun _ _ _ l=>l≠[]) (fun _ _ h=>nomatch h) (fun _ _ _ _ h=>nomatch h) fun n bs ts x y _ _ _ h1 _ h=>h1 (List.append_eq_nil_iff.mp h).1
theorem oW {b:Nat}: ∀ n bs ts (w:List Nat),bs <+: w→(∀ c∈w,c=48∨c=49)→(∀ x∈dY b n bs ts,x.1.length≤w.length)→∃ x∈dY b n bs ts,x.1 <+: w:=by
 refine bX (P:=fun n bs ts l=>∀ w:List Nat,bs <+: w→(∀ c∈w,c=48∨c=49)→(∀ x∈l,x.1.length≤w.length)→∃ x∈l,x.1 <+: w) (fun bs ts w h _ _=>⟨_,List.mem_singleton.mpr rfl,h⟩) (fun n bs ts _ w h _ _=>⟨_,List.mem_singleton.mpr rfl,h⟩) fun n bs ts x y _ hx hy h1 h2 w hw hc hl=>?_
 obtain ⟨r,rfl⟩:=hw
 cases r with
 | nil=>
  exfalso
  have: ∃ z,z∈x:=List.exists_mem_of_ne_nil x (hx▸ez _ _ _)
  obtain ⟨z,hz⟩:=this
  have q1:=hl z (List.mem_append.mpr (.inl hz))
  subst hx
  have q2:=(eP _ _ _ z hz).length_le
  rw [List.length_append,List.length_singleton] at q2
  rw [List.append_nil] at q1
  exact l_z (lin [_,_] [(1,.v 0,.v 1),(1,.a (.v 1) (.n 1),.v 0)] 0 (.n 1) (.n 0) rfl q1 q2)
 | cons d r=>
  rcases hc d (List.mem_append.mpr (.inr List.mem_cons_self)) with rfl | rfl
  ·obtain ⟨z,q1,q2⟩:=h1 (bs++48::r) ⟨r,by rw [List.append_assoc]; rfl⟩ hc fun x hx=>hl x (List.mem_append.mpr (.inl hx))
   exact ⟨z,List.mem_append.mpr (.inl q1),q2⟩
  ·obtain ⟨z,q1,q2⟩:=h2 (bs++49::r) ⟨r,by rw [List.append_assoc]; rfl⟩ hc fun x hx=>hl x (List.mem_append.mpr (.inr hx))
   exact ⟨z,List.mem_append.mpr (.inr q1),q2⟩
noncomputable def hV (cs:List Nat):Nat:=cs.foldl (fun a c=>2*a+(c - 48)) 0
theorem vS: ∀ m:Nat,m < 256→hV (oH m 8).2=m:=by decide +kernel
theorem qv (n:Int):(hV (sgn n):Int)=(171*n+37) % 256:=by
 have h0:0≤(171*n+37) % 256:=Int.emod_nonneg _ (by decide)
 have h1:(171*n+37) % 256 < 256:=Int.emod_lt_of_pos _ (by decide)
 have:=vS ((171*n+37) % 256).toNat (by lia)
 rw [Int.toNat_of_nonneg h0] at this
 rw [sgn,this,Int.toNat_of_nonneg h0]
theorem uF {a b:Int} (h0:0≤a) (h1:a≤255) (h2:0≤b) (h3:b≤255) (e:sgn a=sgn b):a=b:=by
 have x:=qv a
 have y:=qv b
 rw [e,y] at x
 omega
structure Ok (ts:Ts):Prop where
 up:Up ts
 low: ∀ t∈ts,0≤t.1∧t.1≤255
theorem Ok.half {ts:Ts} (h:Ok ts) (i c:Nat):Ok (half i c ts):=⟨h.up.filter _,fun t ht=>h.low t (List.mem_filter.mp ht).1⟩
theorem Ok.one {ts:Ts} (h:Ok ts) {bs:List Nat} (hl:bs.length=8) (hi:InP bs ts):ts.length≤1:=by
 have key: ∀ n:Int,bs <+: sgn n→bs=sgn n:=fun n q=>q.eq_of_length (by rw [hl,(hJ n).1])
 match ts,h,hi with
 | [],_,_=>exact Nat.zero_le _
 | [_],_,_=>exact Nat.le_refl _
 | a::b::_,h,hi=>
  have ha:=h.low a List.mem_cons_self
  have hb:=h.low b (List.mem_cons_of_mem _ List.mem_cons_self)
  have e:=uF ha.1 ha.2 hb.1 hb.2 ((key a.1 (hi a List.mem_cons_self)).symm.trans (key b.1 (hi b (List.mem_cons_of_mem _ List.mem_cons_self))))
  have:=(List.pairwise_cons.mp h.up).1 b List.mem_cons_self
  lia
theorem nQ {b:Nat} (hb:1≤b): ∀ n bs ts,bs.length+n=8→InP bs ts→Ok ts→∀ x∈dY b n bs ts,x.2.length≤b:=by
 refine bX (P:=fun n bs ts l=>bs.length+n=8→InP bs ts→Ok ts→∀ x∈l,x.2.length≤b) (fun bs ts hl hi ho x h=>?_) (fun n bs ts hlen _ hi ho x h=>?_) fun n bs ts x y _ _ _ h1 h2 hl hi ho z hz=>?_
 ·rw [List.mem_singleton.mp h]; exact Nat.le_trans (ho.one hl hi) hb
 ·rw [List.mem_singleton.mp h]; exact hlen
 ·have hl':bs.length < 8:=by exact lin [_,n] [(1,.a (.v 0) (.a (.v 1) (.n 1)),.n 8)] 1 (.a (.v 0) (.n 1)) (.n 8) rfl (l_e hl)
  rcases List.mem_append.mp hz with q | q
  ·exact h1 (by rw [List.length_append,List.length_singleton]; exact l_a (lin [_,n] [(1,.a (.v 0) (.a (.v 1) (.n 1)),.n 8)] 1 (.a (.a (.v 0) (.n 1)) (.v 1)) (.n 8) rfl (l_e hl)) (lin [_,n] [(1,.n 8,.a (.v 0) (.a (.v 1) (.n 1)))] 1 (.n 8) (.a (.a (.v 0) (.n 1)) (.v 1)) rfl (l_s hl))) (dH hi hl' _) (ho.half _ _) z q
  ·exact h2 (by rw [List.length_append,List.length_singleton]; exact l_a (lin [_,n] [(1,.a (.v 0) (.a (.v 1) (.n 1)),.n 8)] 1 (.a (.a (.v 0) (.n 1)) (.v 1)) (.n 8) rfl (l_e hl)) (lin [_,n] [(1,.n 8,.a (.v 0) (.a (.v 1) (.n 1)))] 1 (.n 8) (.a (.a (.v 0) (.n 1)) (.v 1)) rfl (l_s hl))) (dH hi hl' _) (ho.half _ _) z q
theorem my {b:Nat}: ∀ n bs ts,bs.length+n=8→InP bs ts→∀ x∈dY b n bs ts,x.1=bs∨∃ p c,x.1=p++[c]∧bs <+: p∧b < (at_ p ts).length:=by
 refine bX (P:=fun n bs ts l=>bs.length+n=8→InP bs ts→∀ x∈l,x.1=bs∨∃ p c,x.1=p++[c]∧bs <+: p∧b < (at_ p ts).length) (fun bs ts _ hi x h=>?_) (fun n bs ts _ _ hi x h=>?_) fun n bs ts x y hb hx hy h1 h2 hl hi z hz=>?_
 ·rw [List.mem_singleton.mp h]; exact .inl rfl
 ·rw [List.mem_singleton.mp h]; exact .inl rfl
 ·have hl':bs.length < 8:=by exact lin [_,n] [(1,.a (.v 0) (.a (.v 1) (.n 1)),.n 8)] 1 (.a (.v 0) (.n 1)) (.n 8) rfl (l_e hl)
  have key: ∀ c,(z.1=bs++[c]∨∃ p d,z.1=p++[d]∧bs++[c] <+: p∧b < (at_ p (half bs.length c ts)).length)→z.1=bs∨∃ p c,z.1=p++[c]∧bs <+: p∧b < (at_ p ts).length:=by
   rintro c (e | ⟨p,d,e,q1,q2⟩)
   ·exact .inr ⟨bs,c,e,List.prefix_refl _,by rw [mQ hi]; exact Nat.lt_of_not_le hb⟩
   ·exact .inr ⟨p,d,e,jW q1,by rw [← mR hi hl' q1]; exact q2⟩
  rcases List.mem_append.mp hz with q | q
  ·exact key 48 (h1 (by rw [List.length_append,List.length_singleton]; exact l_a (lin [_,n] [(1,.a (.v 0) (.a (.v 1) (.n 1)),.n 8)] 1 (.a (.a (.v 0) (.n 1)) (.v 1)) (.n 8) rfl (l_e hl)) (lin [_,n] [(1,.n 8,.a (.v 0) (.a (.v 1) (.n 1)))] 1 (.n 8) (.a (.a (.v 0) (.n 1)) (.v 1)) rfl (l_s hl))) (dH hi hl' _) z q)
  ·exact key 49 (h2 (by rw [List.length_append,List.length_singleton]; exact l_a (lin [_,n] [(1,.a (.v 0) (.a (.v 1) (.n 1)),.n 8)] 1 (.a (.a (.v 0) (.n 1)) (.v 1)) (.n 8) rfl (l_e hl)) (lin [_,n] [(1,.n 8,.a (.v 0) (.a (.v 1) (.n 1)))] 1 (.n 8) (.a (.a (.v 0) (.n 1)) (.v 1)) rfl (l_s hl))) (dH hi hl' _) z q)
theorem jt {b:Nat}: ∀ n bs ts,bs.length+n=8→((dY b n bs ts).map fun x=>2 ^ (8 - x.1.length)).sum=2 ^ n:=by
 refine bX (P:=fun n bs ts l=>bs.length+n=8→(l.map fun x=>2 ^ (8 - x.1.length)).sum=2 ^ n) (fun bs ts hl=>?_) (fun n bs ts _ hl=>?_) fun n bs ts x y _ _ _ h1 h2 hl=>?_
 ·rw [List.map_singleton,List.sum_singleton,show 8 - bs.length=0 by exact l_a (lin [_,_] [(1,.n 8,.a (.v 1) (.n 0)),(1,.a (.v 0) (.v 1),.n 8)] 1 (.v 0) (.n 0) rfl (l_s hl) (l_d (lin [_] [(1,.a (.v 0) (.n 0),.n 8)] 1 (.v 0) (.n 8) rfl (l_e hl)))) (li [_] [] [] [1] rfl )]
 ·rw [List.map_singleton,List.sum_singleton,show 8 - bs.length=n+1 by exact l_a (lin [_,n,_] [(1,.n 8,.a (.v 2) (.a (.v 1) (.n 1))),(1,.a (.v 0) (.v 2),.n 8)] 1 (.v 0) (.a (.v 1) (.n 1)) rfl (l_s hl) (l_d (lin [_,n] [(1,.a (.v 0) (.a (.v 1) (.n 1)),.n 8)] 1 (.v 0) (.n 8) rfl (l_e hl)))) (lin [n,_,_] [(1,.a (.v 2) (.a (.v 0) (.n 1)),.n 8),(1,.n 8,.a (.v 1) (.v 2))] 1 (.a (.v 0) (.n 1)) (.v 1) rfl (l_e hl) (l_g _ _))]
 ·rw [List.map_append,List.sum_append_nat,h1 (by rw [List.length_append,List.length_singleton]; exact l_a (lin [_,n] [(1,.a (.v 0) (.a (.v 1) (.n 1)),.n 8)] 1 (.a (.a (.v 0) (.n 1)) (.v 1)) (.n 8) rfl (l_e hl)) (lin [_,n] [(1,.n 8,.a (.v 0) (.a (.v 1) (.n 1)))] 1 (.n 8) (.a (.a (.v 0) (.n 1)) (.v 1)) rfl (l_s hl))),h2 (by rw [List.length_append,List.length_singleton]; exact l_a (lin [_,n] [(1,.a (.v 0) (.a (.v 1) (.n 1)),.n 8)] 1 (.a (.a (.v 0) (.n 1)) (.v 1)) (.n 8) rfl (l_e hl)) (lin [_,n] [(1,.n 8,.a (.v 0) (.a (.v 1) (.n 1)))] 1 (.n 8) (.a (.a (.v 0) (.n 1)) (.v 1)) rfl (l_s hl))),Nat.pow_succ]; lia
noncomputable def ae (b:Nat) (ts:Ts):List Rm:=dY b 8 [] ts
theorem js (ts:Ts):InP [] ts:=fun _ _=>List.nil_prefix
noncomputable def im (b:Nat) (w:List Rm):List Rm:=w.flatMap fun x=>dY b (8 - x.1.length) x.1 x.2
noncomputable def iV (b:Nat) (w:List Rm):Nat:=(w.map fun x=>2*(dY b (8 - x.1.length) x.1 x.2).length - 1).sum
noncomputable def WOk (x:Rm):Prop:=x.1.length≤8∧InP x.1 x.2∧Ok x.2
theorem WOk.split {x:Rm} {b:Nat} (hb:1≤b) (h:WOk x) (hx: ¬ x.2.length≤b):x.1.length < 8∧WOk (x.1++[48],half x.1.length 48 x.2)∧WOk (x.1++[49],half x.1.length 49 x.2)∧
  dY b (8 - x.1.length) x.1 x.2=dY b (8 - (x.1++[48]).length) (x.1++[48]) (half x.1.length 48 x.2)++dY b (8 - (x.1++[49]).length) (x.1++[49]) (half x.1.length 49 x.2):=by
 obtain ⟨h1,h2,h3⟩:=h
 have hl:x.1.length < 8:=Nat.lt_of_le_of_ne h1 fun e=>hx (Nat.le_trans (h3.one e h2) hb)
 refine ⟨hl,⟨by simp; exact lin [_] [(1,.a (.v 0) (.n 1),.n 8)] 1 (.v 0) (.n 7) rfl hl,dH h2 hl _,h3.half _ _⟩,⟨by simp; exact lin [_] [(1,.a (.v 0) (.n 1),.n 8)] 1 (.v 0) (.n 7) rfl hl,dH h2 hl _,h3.half _ _⟩,?_⟩
 rw [List.length_append,List.length_singleton,List.length_append,List.length_singleton,← lb hx,show 8 - (x.1.length+1)+1=8 - x.1.length by exact l_a (lin [_,_,_] [(1,.a (.v 0) (.a (.v 2) (.n 1)),.n 8),(1,.n 8,.a (.v 1) (.v 2))] 1 (.a (.v 0) (.n 1)) (.v 1) rfl (l_d (hl)) (l_g _ _)) (lin [_,_,_] [(1,.n 8,.a (.v 1) (.a (.v 2) (.n 1))),(1,.a (.v 0) (.v 2),.n 8)] 1 (.v 0) (.a (.v 1) (.n 1)) rfl (l_g _ _) (l_d (h1)))]
theorem oA {b:Nat} {w:List Rm} {x:Rm} (h:x.2.length≤b):iV b (w++[x])=iV b w+1∧im b (w++[x])=im b w++[x]:=by
 constructor
 ·rw [iV,List.map_append,List.sum_append_nat,List.map_singleton,List.sum_singleton,ik h]; rfl
 ·rw [im,List.flatMap_append,List.flatMap_singleton,ik h]; rfl
theorem oB {b:Nat} (hb:1≤b) {w:List Rm} {x:Rm} (hx:WOk x) (h: ¬ x.2.length≤b):iV b (w++[x])=iV b (w++[(x.1++[48],half x.1.length 48 x.2),(x.1++[49],half x.1.length 49 x.2)])+1∧
  im b (w++[x])=im b (w++[(x.1++[48],half x.1.length 48 x.2),(x.1++[49],half x.1.length 49 x.2)]):=by
 obtain ⟨hl,h1,h2,e⟩:=hx.split hb h
 have ne: ∀ n bs ts,1≤(dY b n bs ts).length:=fun n bs ts=>List.length_pos_iff.mpr (ez n bs ts)
 constructor
 ·rw [iV,iV,List.map_append,List.map_append,List.sum_append_nat,List.sum_append_nat,List.map_singleton,List.sum_singleton,List.map_cons,List.sum_cons,List.map_singleton,List.sum_singleton,e,List.length_append]
  have:=ne (8 - (x.1++[48]).length) (x.1++[48]) (half x.1.length 48 x.2)
  have:=ne (8 - (x.1++[49]).length) (x.1++[49]) (half x.1.length 49 x.2)
  simp only at*
  exact l_a (lin [_,_,_,_,_,_] [(1,.a (.v 1) (.n 1),.m 2 (.a (.v 4) (.v 5))),(1,.m 2 (.v 4),.a (.v 2) (.n 1)),(1,.m 2 (.v 5),.a (.v 3) (.n 1))] 1 (.a (.v 0) (.v 1)) (.a (.a (.v 0) (.a (.v 2) (.v 3))) (.n 1)) rfl (l_d (lin [_,_] [(2,.n 1,.v 1)] 1 (.n 1) (.m 2 (.a (.v 0) (.v 1))) rfl this)) (l_g _ _) (l_g _ _)) (lin [_,_,_,_,_,_] [(1,.m 2 (.a (.v 4) (.v 5)),.a (.v 3) (.n 1)),(1,.a (.v 1) (.n 1),.m 2 (.v 4)),(1,.a (.v 2) (.n 1),.m 2 (.v 5))] 1 (.a (.a (.v 0) (.a (.v 1) (.v 2))) (.n 1)) (.a (.v 0) (.v 3)) rfl (l_g _ _) (l_d (lin [_] [(2,.n 1,.v 0)] 1 (.n 1) (.m 2 (.v 0)) rfl (by assumption))) (l_d (lin [_] [(2,.n 1,.v 0)] 1 (.n 1) (.m 2 (.v 0)) rfl this)))
 ·rw [im,im,List.flatMap_append,List.flatMap_append,List.flatMap_singleton,List.flatMap_cons,List.flatMap_singleton,e]
end
noncomputable section
theorem cn (m:Nat):aw (m:Int)=(Nat.toDigits 10 m).map Char.toNat:=by
 show (Nat.repr m).toList.map Char.toNat=_
 rw [Nat.toList_repr]
theorem ec (m:Nat):aw (Int.negSucc m)=45::aw ((m+1:Nat):Int):=by
 rw [cn]
 show ("-" ++Nat.repr (m+1)).toList.map Char.toNat=_
 rw [String.toList_append,Nat.toList_repr,List.map_append]; rfl
theorem gG (m:Nat):DV (aw (m:Int)):=fun c hc=>by
 rw [cn] at hc
 obtain ⟨ch,h1,rfl⟩:=List.mem_map.mp hc
 have:=Nat.isDigit_of_mem_toDigits (by decide) (by decide) h1
 simp [Char.isDigit,UInt32.le_iff_toNat_le] at this
 exact this
theorem rk (m:Nat):aw (m:Int)≠[]:=by
 rw [cn]
 intro e
 have:=Nat.length_toDigits_pos (b:=10) (n:=m)
 rw [List.map_eq_nil_iff.mp e] at this
 exact absurd this (by decide)
theorem rh (cs:List Nat) (c:Nat):xx (cs++[c])=xx cs*10+(c - 48):=by rw [xx,List.foldl_append]; rfl
theorem eT: ∀ d:Nat,d < 10→(Nat.digitChar d).toNat=48+d:=by decide
theorem mH (m:Nat):xx (aw (m:Int))=m:=by
 induction m using Nat.strongRecOn with
 | _ m ih=>
  rw [cn]
  by_cases h:m < 10
  ·rw [Nat.toDigits_of_lt_base h,List.map_singleton,eT m h]
   show 0*10+(48+m - 48)=m
   exact l_a (lin [_,m] [(1,.a (.v 0) (.n 48),.a (.n 48) (.v 1))] 1 (.a (.m 0 (.n 10)) (.v 0)) (.v 1) rfl (l_d (lin [m] [] 1 (.n 48) (.a (.n 48) (.v 0)) rfl ))) (lin [m,_] [(1,.a (.n 48) (.v 0),.a (.v 1) (.n 48))] 1 (.v 0) (.a (.m 0 (.n 10)) (.v 1)) rfl (l_g _ _))
  ·have e:m=10*(m / 10)+m % 10:=(Nat.div_add_mod m 10).symm
   have hd:0 < m / 10:=by lia
   have hm:m % 10 < 10:=Nat.mod_lt _ (by decide)
   have:=ih (m / 10) (by exact lin [_,m,_] [(9,.n 10,.v 1),(1,.a (.m 10 (.v 0)) (.v 2),.v 1)] 10 (.a (.v 0) (.n 1)) (.v 1) rfl (l_t h) (l_s e))
   rw [cn] at this
   rw [e,← Nat.toDigits_append_toDigits (by decide) hd hm,List.map_append,Nat.toDigits_of_lt_base hm,List.map_singleton,rh,this,eT _ hm]
   lia
theorem cO {m k:Nat} (hk:0 < k) (h:m < 10 ^ k):(aw (m:Int)).length≤k:=by
 rw [cn,List.length_map]
 exact (Nat.length_toDigits_le_iff (by decide) hk).mpr h
theorem mI (i:Int): ∀ c∈aw i,c=45∨(48≤c∧c≤57):=by
 cases i with
 | ofNat m=>exact fun c h=>.inr (gG m c h)
 | negSucc m=>
  intro c h
  rw [ec] at h
  rcases List.mem_cons.mp h with h | h
  ·exact .inl h
  ·exact .inr (gG (m+1) c h)
noncomputable def eh (t:Int×Int):List Nat:=aw t.1++61::aw t.2
noncomputable def lD (x:Rm):List Nat:=x.1++58::x.2.flatMap fun t=>32::eh t
noncomputable def cD (b:Nat):List Nat:=[98,111,117,110,100,32]++aw (b:Int)
noncomputable def et (b:Nat) (ts:Ts):List (List Nat):=cD b::(ae b ts).map lD
noncomputable def iW (b:Nat) (ts:Ts):List Nat:=bf [10] (et b ts)
theorem hG {i:Int} {c d:Nat} (h:c∈aw i) (hd:d=10∨d=32∨d=61∨d=58):d≠c:=fun e=>by
 have:=mI i c h
 lia
theorem kF {t:Int×Int} {d:Nat} (hd:d=10∨d=32∨d=58):d ∉ eh t:=fun h=>by
 rcases List.mem_append.mp h with h | h
 ·exact hG h (by lia) rfl
 ·rcases List.mem_cons.mp h with h | h
  ·lia
  ·exact hG h (by lia) rfl
theorem sB {x:Rm} (hx: ∀ c∈x.1,c=48∨c=49):10 ∉ lD x:=fun h=>by
 rcases List.mem_append.mp h with h | h
 ·have:=hx 10 h; exact this.elim (fun q=>l_z (lin [] [(1,.n 48,.n 10)] 0 (.n 1) (.n 0) rfl (l_s q))) (fun q=>l_z (lin [] [(1,.n 49,.n 10)] 0 (.n 1) (.n 0) rfl (l_s q)))
 ·rcases List.mem_cons.mp h with h | h
  ·exact l_z (lin [] [(1,.n 58,.n 10)] 0 (.n 1) (.n 0) rfl (l_s h))
  ·obtain ⟨t,_,h⟩:=List.mem_flatMap.mp h
   rcases List.mem_cons.mp h with h | h
   ·exact l_z (lin [] [(1,.n 32,.n 10)] 0 (.n 1) (.n 0) rfl (l_s h))
   ·exact kF (.inl rfl) h
theorem pq (b:Nat):10 ∉ cD b:=fun h=>by
 rcases List.mem_append.mp h with h | h
 ·revert h; decide
 ·exact hG h (.inl rfl) rfl
theorem qf (b:Nat) (ts:Ts): ∀ r∈et b ts,10 ∉ r:=fun r h=>by
 rcases List.mem_cons.mp h with rfl | h
 ·exact pq b
 ·obtain ⟨x,h1,rfl⟩:=List.mem_map.mp h
  exact sB (lc _ _ _ (fun c h=>by cases h) x h1).2
noncomputable def mX (x:Rm):List (List Nat):=(x.1++[58])::x.2.map eh
theorem qg (x:Rm):bf [32] (mX x)=lD x:=by
 rw [mX,bf,lD,List.flatMap_map,List.append_assoc]; rfl
theorem oy {x:Rm} (hx: ∀ c∈x.1,c=48∨c=49): ∀ r∈mX x,32 ∉ r:=fun r h q=>by
 rcases List.mem_cons.mp h with rfl | h
 ·rcases List.mem_append.mp q with q | q
  ·have:=hx 32 q; exact this.elim (fun q=>l_z (lin [] [(1,.n 48,.n 32)] 0 (.n 1) (.n 0) rfl (l_s q))) (fun q=>l_z (lin [] [(1,.n 49,.n 32)] 0 (.n 1) (.n 0) rfl (l_s q)))
  ·rw [List.mem_singleton] at q; exact l_z (lin [] [(1,.n 58,.n 32)] 0 (.n 1) (.n 0) rfl (l_s q))
 ·obtain ⟨t,_,rfl⟩:=List.mem_map.mp h
  exact kF (.inr (.inl rfl)) q
theorem oz (t:Int×Int):bf [61] [aw t.1,aw t.2]=eh t:=by simp [bf,eh]
theorem oO (t:Int×Int): ∀ r∈[aw t.1,aw t.2],61 ∉ r:=fun r h q=>by
 rcases List.mem_cons.mp h with rfl | h
 ·exact hG q (by lia) rfl
 ·rw [List.mem_singleton.mp h] at q
  exact hG q (by lia) rfl
theorem pL {ts us:Ts} (h1:Up ts) (h2:Up us) (p:ts.Perm us):ts=us:=
 p.eq_of_pairwise (le:=fun a b=>a.1 < b.1) (fun a b _ _ q1 q2=>absurd (Int.lt_trans q1 q2) (Int.lt_irrefl _)) h1 h2
theorem wh {b:Nat} {ts:Ts} (h:Up ts):((ae b ts).flatMap (·.2)).Pairwise fun x y=>x.1≠y.1:=
 (ij (b:=b) 8 [] ts rfl).symm.pairwise (h.imp fun q e=>by rw [e] at q; exact Int.lt_irrefl _ q) (fun h e=>h e.symm)
theorem oU {b:Nat} {ts:Ts} (h:Up ts):ew [] ((ae b ts).flatMap (·.2))=ts:=by
 obtain ⟨h1,h2⟩:=wc ((ae b ts).flatMap (·.2)) [] List.Pairwise.nil (fun _ _ t ht=>by cases ht) (wh h)
 exact pL h1 h (h2.trans (ij 8 [] ts rfl))
end
noncomputable section
open PySem
noncomputable def iG:Ss:=
 (.cons (.ite (.or (.cons (.not (.isi (.var "name") "int")) (.cons (.isi (.var "name") "bool") (.cons (.not (.cmp2 .LtE .LtE (.int 0) (.var "name") (.int 255))) .nil)))) (.cons (.raise "BadName")
 .nil) .nil)
 .nil)
noncomputable def rI:Ss:=
 (.cons (.ex (.call "need_name" (.cons (.var "name") .nil)))
 (.cons (.ret (.bin .Mod (.bin .Add (.bin .Mult (.int 171) (.var "name")) (.int 37)) (.int 256)))
 .nil))
noncomputable def rH:Ss:=
 (.cons (.asg "number" (.call "mixed" (.cons (.var "name") .nil)))
 (.cons (.asg "text" (.str []))
 (.cons (.for_ "place" (.blt .range (.cons (.glo "SIGNS") .nil)) (.cons (.asg "text" (.bin .Add (.blt .str (.cons (.bin .Mod (.var "number") (.int 2)) .nil)) (.var "text")))
 (.cons (.asg "number" (.bin .FloorDiv (.var "number") (.int 2)))
 .nil)))
 (.cons (.ret (.var "text"))
 .nil))))
noncomputable def dL:Ss:=
 (.cons (.ret (.compIf (.var "thing") "thing" (.var "things") (.cmp .NotEq (.idx (.var "thing") (.int 0)) (.var "name"))))
 .nil)
noncomputable def jy:Ss:=
 (.cons (.for_ "thing" (.var "things") (.cons (.ite (.cmp .Eq (.idx (.var "thing") (.int 0)) (.var "name")) (.cons (.ret (.idx (.var "thing") (.int 1)))
 .nil) .nil)
 .nil))
 (.cons (.ret .none)
 .nil))
noncomputable def oa:Ss:=
 (.cons (.asg "bits" (.idx (.var "room") (.int 0)))
 (.cons (.asg "at" (.blt .len (.cons (.var "bits") .nil)))
 (.cons (.asg "first" (.compIf (.var "thing") "thing" (.idx (.var "room") (.int 1)) (.cmp .Eq (.idx (.call "signs" (.cons (.idx (.var "thing") (.int 0)) .nil)) (.var "at")) (.str [48]))))
 (.cons (.asg "last" (.compIf (.var "thing") "thing" (.idx (.var "room") (.int 1)) (.cmp .Eq (.idx (.call "signs" (.cons (.idx (.var "thing") (.int 0)) .nil)) (.var "at")) (.str [49]))))
 (.cons (.ret (.tup (.cons (.tup (.cons (.bin .Add (.var "bits") (.str [48])) (.cons (.var "first") .nil))) (.cons (.tup (.cons (.bin .Add (.var "bits") (.str [49])) (.cons (.var "last") .nil))) .nil))))
 .nil)))))
noncomputable def iB:Ss:=
 (.cons (.asg "waiting" (.list (.cons (.tup (.cons (.str []) (.cons (.blt .list (.cons (.var "things") .nil)) .nil))) .nil)))
 (.cons (.asg "found" .dict)
 (.cons (.whl (.cmp .Gt (.blt .len (.cons (.var "waiting") .nil)) (.int 0)) (.cons (.asg "room" (.mth .pop (.var "waiting") .nil))
 (.cons (.ite (.cmp .LtE (.blt .len (.cons (.idx (.var "room") (.int 1)) .nil)) (.var "bound")) (.cons (.asgSub (.var "found") (.idx (.var "room") (.int 0)) (.idx (.var "room") (.int 1)))
 .nil) (.cons (.asg "both" (.call "parted" (.cons (.var "room") .nil)))
 (.cons (.ex (.mth .append (.var "waiting") (.cons (.idx (.var "both") (.int 0)) .nil)))
 (.cons (.ex (.mth .append (.var "waiting") (.cons (.idx (.var "both") (.int 1)) .nil)))
 .nil))))
 .nil)))
 (.cons (.ret (.compX (.tup (.cons (.var "bits") (.cons (.idx (.var "found") (.var "bits")) .nil))) "bits" (.blt .sorted (.cons (.blt .list (.cons (.var "found") .nil)) .nil))))
 .nil))))
noncomputable def fW:Ss:=
 (.cons (.ite (.or (.cons (.not (.isi (.var "bound") "int")) (.cons (.isi (.var "bound") "bool") (.cons (.not (.cmp2 .LtE .LtE (.int 1) (.var "bound") (.int 64))) .nil)))) (.cons (.raise "BadBound")
 .nil) .nil)
 (.cons (.asgAttr (.var "self") "bound" (.var "bound"))
 (.cons (.asgAttr (.var "self") "held" (.list .nil))
 .nil)))
noncomputable def iO:Ss:=
 (.cons (.ex (.call "need_name" (.cons (.var "name") .nil)))
 (.cons (.asg "before" (.call "value_in" (.cons (.attr (.var "self") "held") (.cons (.var "name") .nil))))
 (.cons (.asgAttr (.var "self") "held" (.call "with_thing" (.cons (.attr (.var "self") "held") (.cons (.var "name") (.cons (.var "value") .nil)))))
 (.cons (.ret (.var "before"))
 .nil))))
noncomputable def dN:Ss:=
 (.cons (.ex (.call "need_name" (.cons (.var "name") .nil)))
 (.cons (.asg "before" (.call "value_in" (.cons (.attr (.var "self") "held") (.cons (.var "name") .nil))))
 (.cons (.ite (.cmp .Is (.var "before") .none) (.cons (.raise "NoThing")
 .nil) .nil)
 (.cons (.asgAttr (.var "self") "held" (.call "without_thing" (.cons (.attr (.var "self") "held") (.cons (.var "name") .nil))))
 (.cons (.ret (.var "before"))
 .nil)))))
noncomputable def fX:Ss:=
 (.cons (.ex (.call "need_name" (.cons (.var "name") .nil)))
 (.cons (.ret (.call "value_in" (.cons (.attr (.var "self") "held") (.cons (.var "name") .nil))))
 .nil))
noncomputable def fU:Ss:=
 (.cons (.ret (.blt .len (.cons (.attr (.var "self") "held") .nil)))
 .nil)
noncomputable def er:Ss:=
 (.cons (.ret (.blt .list (.cons (.attr (.var "self") "held") .nil)))
 .nil)
noncomputable def fb:Ss:=
 (.cons (.ret (.call "rooms_for" (.cons (.attr (.var "self") "held") (.cons (.attr (.var "self") "bound") .nil))))
 .nil)
section
variable {C:Cx} {k:Nat} {H:List HO}
theorem dq {a b:Int} (h:a≤b):Cmp H .LtE (.int a) (.int b) true:=by
 have:=Cmp.le (H:=H) a b
 rwa [decide_eq_true h] at this
theorem aW {a b:Int}:Cmp H .Eq (.int a) (.int b) (eqB (.int a) (.int b)):=.eq (.self _) (.self _) rfl rfl
theorem qT {c:String} (hz:ar H):c=c∧ar H∧H.take H.length=H:=⟨rfl,hz,List.take_length⟩
theorem zN (F:bc C "need_name" ["name"] iG) {n:Int} (h0:0≤n) (h1:n≤255):Calls C (k+1) "need_name" [.int n] H (.ok .none) H:=
 ao F rfl (aG (gn (fv (cJ (cM (aa rfl) (.int _) rfl)) (fv (cM (aa rfl) (.int _) rfl) (fv (cJ (fE ac (aa rfl) (dq h0) ac (dq h1))) dn)))) (br ⟨rfl,trivial,List.take_length⟩))
noncomputable def lF (n:Int):Int:=(171*n+37) % 256
theorem wt (F:bc C "mixed" ["name"] rI) {n:Int} (Gn:Calls C k "need_name" [.int n] H (.ok .none) H):Calls C (k+1) "mixed" [.int n] H (.ok (.int (lF n))) H:=
 ao F rfl (iZ (ah (aJ (aa rfl)) Gn) (aQ (af (af (af ac (aa rfl) (.mul (.inl (by decide)))) ac (.add _ _)) ac (.mod (by decide))) (au rfl trivial)))
noncomputable def sgR (m:Int):Nat→Int×List Nat
 | 0=>(m,[])
 | i+1=>((sgR m i).1 / 2,bit (decide ((sgR m i).1 % 2=1))::(sgR m i).2)
theorem qb (m:Int): ∀ i,(sgR m i).2.length=i
 | 0=>rfl
 | i+1=>by rw [sgR,List.length_cons,qb m i]
theorem FU (x:Int):x % 2=b01 (decide (x % 2=1)):=by
 rcases Int.emod_two_eq x with h | h<;>rw [h]<;>rfl
theorem xP: ∀ m:Nat,m < 256→(sgR m 8).2=(oH m 8).2:=by decide +kernel
theorem uG (n:Int):(sgR (lF n) 8).2=sgn n:=by
 have h0:0≤lF n:=Int.emod_nonneg _ (by decide)
 have h1:lF n < 256:=Int.emod_lt_of_pos _ (by decide)
 have:=xP (lF n).toNat (by lia)
 rw [Int.toNat_of_nonneg h0] at this
 exact this
theorem DL (F:bc C "signs" ["name"] rH) (hg:C.glo "SIGNS" =some (.int 8)) {n:Int} (Gm:Calls C k "mixed" [.int n] H (.ok (.int (lF n))) H):Calls C (k+1) "signs" [.int n] H (.ok (.str (sgn n))) H:=by
 refine ao F rfl (aD (ah (aJ (aa rfl)) Gm) (aD aI ?_))
 refine cW (fun i st=>st.H=H∧st.s "number" =some (.int (sgR (lF n) i).1)∧st.s "text" =some (.str (sgR (lF n) i).2)) (ay (aJ (zH hg)) (.range1 _)) (bI (n:=8) (by decide)) ⟨rfl,rfl,rfl⟩ ?_ fun st e=>aQ (bw (aa e.2.2) (congrArg V.str (uG n))) (au e.1 trivial)
 rintro i w ⟨s,H'⟩ hw ⟨e1,e2,e3⟩ Q' hQ
 have e1:H'=H:=e1
 subst e1
 obtain ⟨hi,rfl⟩:=eA hw
 have hl:=qb (lF n) i
 have h2:=FU (sgR (lF n) i).1
 have hd:aw ((sgR (lF n) i).1 % 2)=[bit (decide ((sgR (lF n) i).1 % 2=1))]:=(congrArg aw h2).trans (ju _)
 have hs:((sgR (lF n) i).1 % 2).natAbs < 10 ^ 100:=h2▸jC _
 have e4:some (V.str (aw ((sgR (lF n) i).1 % 2)++(sgR (lF n) i).2))=some (V.str (sgR (lF n) (i+1)).2):=by rw [hd]; rfl
 refine aD (af (ay (aJ (af (aa (by exact e2)) ac (.mod (by decide)))) (.str hs)) (aa (by exact e3)) (.cat ?_)) (aD (af (aa (by exact e2)) ac (.div (by decide) (by decide))) (br (hQ _ (by exact ⟨rfl,rfl,e4⟩)).1))
 rw [hd,hl,List.length_singleton]; exact lin [i] [(1,.a (.v 0) (.n 1),.n 8)] 1 (.a (.n 1) (.v 0)) (.n 16000000) rfl hi
inductive oj (H:List HO):V→Prop
 | kind {v:V} {t:String}:rX H v t→rT t "int" =false→oj H v
 | bool (b:Bool):oj H (.bool b)
 | low {n:Int}:n < 0→oj H (.int n)
 | high {n:Int}:255 < n→oj H (.int n)
noncomputable def gc (ts:Ts) (n:Int):V:=((ts.find? fun t=>decide (t.1=n)).map fun t=>V.int t.2).getD .none
theorem kb (ts:Ts) (n:Int) (m:Nat):low m (gc ts n):=by
 unfold gc
 cases ts.find? fun t=>decide (t.1=n)<;>trivial
theorem we {ts:Ts} {i:Nat} {v:V} (h:(ts.map pr)[i]?= some v): ∃ hi:i < ts.length,v=pr ts[i]:=by
 rw [List.getElem?_map] at h
 obtain ⟨t,h1,rfl⟩:=Option.map_eq_some_iff.mp h
 obtain ⟨h2,rfl⟩:=List.getElem?_eq_some_iff.mp h1
 exact ⟨h2,rfl⟩
theorem uh {ts:Ts} {n:Int} {i:Nat} (hi:i < ts.length) (h:ts[i].1=n) (hb: ∀ t∈ts.take i,t.1≠n):gc ts n=.int ts[i].2:=by
 have:ts.find? (fun t=>decide (t.1=n))=some ts[i]:=List.find?_eq_some_iff_getElem.mpr ⟨decide_eq_true h,i,hi,rfl,fun j hj=>by
  rw [decide_eq_false (hb _ (List.mem_take_iff_getElem.mpr ⟨j,by exact li [j,_,i] [([1,0],[3]),([3],[2])] [1,0] [2] rfl hj (l_m (li [i,_] [([1,0],[2])] [1] [2] rfl hi)),rfl⟩))]; rfl⟩
 rw [gc,this]; rfl
theorem pK {ts:Ts} {n:Int} (hb: ∀ t∈ts,t.1≠n):gc ts n=.none:=by
 rw [gc,List.find?_eq_none.mpr fun t ht=>by rw [decide_eq_false (hb t ht)]; exact Bool.false_ne_true]; rfl
theorem ku (F:bc C "value_in" ["things", "name"] jy) (ts:Ts) (n:Int):Calls C (k+1) "value_in" [.lst (ts.map pr),.int n] H (.ok (gc ts n)) H:=by
 refine ao F rfl (yg (fun i st=>st.H=H∧st.s "name" =some (.int n)∧∀ t∈ts.take i,t.1≠n) (fun u st=>u=gc ts n∧st.H=H) (aa rfl) (.lst _) ⟨rfl,rfl,fun t h=>by rw [List.take_zero] at h; cases h⟩ ?_ (fun u st e=>?_) fun st e=>?_)
 ·rintro i w ⟨s,H'⟩ hw ⟨e1,e2,e3⟩ Q' hQ hR
  have e1:H'=H:=e1
  subst e1
  obtain ⟨hi,rfl⟩:=we hw
  by_cases q:ts[i].1=n
  ·exact dx (ag (ai (aa rfl) ac bC) (aa (by exact e2)) aW (decide_eq_true q)) (aQ (ai (aa rfl) ac jX) (bS (hR _ _ ⟨(uh hi q e3).symm,rfl⟩)))
  ·have key: ∀ t∈ts.take (i+1),t.1≠n:=fun t ht=>by
    rw [List.take_succ_eq_append_getElem hi] at ht
    rcases List.mem_append.mp ht with ht | ht
    ·exact e3 t ht
    ·rw [List.mem_singleton.mp ht]; exact q
   exact aG (ag (ai (aa rfl) ac bC) (aa (by exact e2)) aW (decide_eq_false q)) (br (hQ _ (by exact ⟨rfl,e2,key⟩)).1)
 ·obtain ⟨rfl,e⟩:=e
  exact au e (kb _ _ _)
 ·refine aQ (bw mB (pK fun t ht=>e.2.2 t ?_).symm) (au e.1 (kb _ _ _))
  rw [List.length_map,List.take_length]; exact ht
noncomputable def woT (ts:Ts) (n:Int):Ts:=ts.filter fun t=>!decide (t.1=n)
theorem ry (F:bc C "without_thing" ["things", "name"] dL) (ts:Ts) (n:Int):Calls C (k+1) "without_thing" [.lst (ts.map pr),.int n] H (.ok (.lst ((woT ts n).map pr))) H:=
 ao F rfl (aQ (bG (g:=pr) (q:=pr) (p:=fun t=>!decide (t.1=n)) (rs:=ts) (aa rfl) (.lst _) (fun t h=>ag (ai (aa rfl) ac bC) (aa rfl) bz rfl) (fun _ _ _=>aa rfl) .lst) (au rfl (bV _ _)))
noncomputable def stA (b:Int) (ts:Ts):HO:=.attrs [("bound",.int b),("held",.lst (ts.map pr))]
structure cp (H:List HO) (i j:Nat) (b:Int) (ts:Ts):Prop where
 obj:H[i]?= some (.obj j)
 att:H[j]?= some (stA b ts)
theorem cp.at {i j:Nat} {b:Int} {ts:Ts} (h:cp H i j b ts):eF H (.loc i) j [("bound",.int b),("held",.lst (ts.map pr))]:=.mk h.obj h.att
theorem mf {i j:Nat} {fs fs':List (String×V)} (h1:H[i]?= some (.obj j)) (h2:H[j]?= some (.attrs fs)):(H.set j (.attrs fs'))[i]?= some (.obj j)∧(H.set j (.attrs fs'))[j]?= some (.attrs fs'):=by
 have ne:j≠i:=fun e=>by subst e; rw [h1] at h2; cases h2
 exact ⟨by rw [List.getElem?_set_ne ne]; exact h1,List.getElem?_set_self (List.getElem?_eq_some_iff.mp h2).1⟩
theorem cp.set {i j:Nat} {b b':Int} {ts ts':Ts} (h:cp H i j b ts):cp (H.set j (stA b' ts')) i j b' ts':=⟨(mf h.obj h.att).1,(mf h.obj h.att).2⟩
theorem tO (F:bc C "Store.__init__" ["self", "bound"] fW) {i j:Nat} (h1:H[i]?= some (.obj j)) (h2:H[j]?= some (.attrs [])) {b:Int} (hb:1≤b) (hb':b≤64):Calls C (k+1) "Store.__init__" [.loc i,.int b] H (.ok .none) (H.set j (stA b [])):=by
 refine ee F rfl (aG (gn (fv (cJ (cM (aa rfl) (.int _) rfl)) (fv (cM (aa rfl) (.int _) rfl) (fv (cJ (fE ac (aa rfl) (dq hb) ac (dq hb'))) dn)))) ?_)
 have q:=mf (fs':=[("bound",.int b)]) h1 h2
 refine nq (aa rfl) (aa rfl) (.mk h1 h2) (show 0 < 900 by decide) (nq (aM aL .lst) (aa rfl) (.mk q.1 q.2) (show 1 < 900 by decide) (br ⟨rfl,?_⟩))
 exact List.set_set ..
variable {i j:Nat} {b:Int} {ts:Ts}
theorem DM (F:bc C "Store.put" ["self", "name", "value"] iO) (S:cp H i j b ts) {n v:Int} (Gn:Calls C k "need_name" [.int n] H (.ok .none) H) (Gv:Calls C k "value_in" [.lst (ts.map pr),.int n] H (.ok (gc ts n)) H)
  (Gw:Calls C k "with_thing" [.lst (ts.map pr),.int n,.int v] H (.ok (.lst ((ce ts n v).map pr))) H):Calls C (k+1) "Store.put" [.loc i,.int n,.int v] H (.ok (gc ts n)) (H.set j (stA b (ce ts n v))):=
 ee F rfl (iZ (ah (aJ (aa rfl)) Gn) (aD (ah (cz (bK (aa rfl) S.at rfl) (aa rfl)) Gv) (nq (ah (kj (bK (aa rfl) S.at rfl) (aa rfl) (aa rfl)) Gw) (aa rfl) S.at (show 2 < 900 by decide) (aQ (aa rfl) ⟨rfl,rfl⟩))))
theorem zJ (F:bc C "Store.take" ["self", "name"] dN) (S:cp H i j b ts) {n v:Int} (Gn:Calls C k "need_name" [.int n] H (.ok .none) H) (Gv:Calls C k "value_in" [.lst (ts.map pr),.int n] H (.ok (gc ts n)) H) (hv:gc ts n=.int v)
  (Gw:Calls C k "without_thing" [.lst (ts.map pr),.int n] H (.ok (.lst ((woT ts n).map pr))) H):Calls C (k+1) "Store.take" [.loc i,.int n] H (.ok (.int v)) (H.set j (stA b (woT ts n))):=by
 rw [hv] at Gv
 exact ee F rfl (iZ (ah (aJ (aa rfl)) Gn) (aD (ah (cz (bK (aa rfl) S.at rfl) (aa rfl)) Gv) (aG (ip (aa rfl) mB (.is (.xn (fun e=>nomatch e)))) (nq (ah (cz (bK (aa rfl) S.at rfl) (aa rfl)) Gw) (aa rfl) S.at (show 2 < 900 by decide) (aQ (aa rfl) ⟨rfl,rfl⟩)))))
theorem wo (F:bc C "Store.take" ["self", "name"] dN) (hz:ar H) (S:cp H i j b ts) {n:Int} (Gn:Calls C k "need_name" [.int n] H (.ok .none) H) (Gv:Calls C k "value_in" [.lst (ts.map pr),.int n] H (.ok (gc ts n)) H) (hv:gc ts n=.none):Calls C (k+1) "Store.take" [.loc i,.int n] H (.err "NoThing") H:=by
 rw [hv] at Gv
 exact pj F rfl hz (iZ (ah (aJ (aa rfl)) Gn) (aD (ah (cz (bK (aa rfl) S.at rfl) (aa rfl)) Gv) (dx (ip (aa rfl) mB (.is .nn)) (uR hz (qT hz)))))
theorem zQ (F:bc C "Store.find" ["self", "name"] fX) (S:cp H i j b ts) {n:Int} (Gn:Calls C k "need_name" [.int n] H (.ok .none) H) (Gv:Calls C k "value_in" [.lst (ts.map pr),.int n] H (.ok (gc ts n)) H):Calls C (k+1) "Store.find" [.loc i,.int n] H (.ok (gc ts n)) H:=
 ao F rfl (iZ (ah (aJ (aa rfl)) Gn) (aQ (ah (cz (bK (aa rfl) S.at rfl) (aa rfl)) Gv) (au rfl (kb _ _ _))))
theorem zK (F:bc C "Store.size" ["self"] fU) (S:cp H i j b ts):Calls C (k+1) "Store.size" [.loc i] H (.ok (.int (ts.length:Nat))) H:=
 ao F rfl (aQ (bw (ay (aJ (bK (aa rfl) S.at rfl)) (.len (.seq (.lst _)))) (by rw [List.length_map])) (au rfl trivial))
theorem tc (F:bc C "Store.things" ["self"] er) (S:cp H i j b ts):Calls C (k+1) "Store.things" [.loc i] H (.ok (.lst (ts.map pr))) H:=
 ao F rfl (aQ (cu (aJ (bK (aa rfl) S.at rfl)) (.list (.lst _)) .lst) (au rfl (bV _ _)))
theorem wq (F:bc C "Store.rooms" ["self"] fb) (S:cp H i j b ts) {u:V} (hl:low H.length u) (Gr:Calls C k "rooms_for" [.lst (ts.map pr),.int b] H (.ok u) H):Calls C (k+1) "Store.rooms" [.loc i] H (.ok u) H:=
 ao F rfl (aQ (ah (cz (bK (aa rfl) S.at rfl) (bK (aa rfl) S.at rfl)) Gr) (au rfl hl))
end
end
noncomputable section
open PySem
noncomputable def aH (x:Rm):V:=.tup [.str x.1,.lst (x.2.map pr)]
noncomputable def mG (x:Rm):List Nat×V:=(x.1,.lst (x.2.map pr))
theorem fy (n:Nat): ∀ xs:List Rm,lows n (xs.map aH)
 | []=>trivial
 | x::r=>⟨⟨trivial,bV n x.2,trivial⟩,fy n r⟩
section
variable {C:Cx} {k:Nat} {H:List HO}
theorem bd {x:Rm}:Idx H (aH x) (.int 0) (.str x.1):=.tup (by decide) rfl
theorem aK {x:Rm}:Idx H (aH x) (.int 1) (.lst (x.2.map pr)):=.tup (by decide) rfl
theorem rA (F:bc C "parted" ["room"] oa) (x:Rm) (hb:x.1.length < 8) (ht: ∀ t∈x.2,0≤t.1∧t.1≤255) (Gs: ∀ n:Int,0≤n→n≤255→Calls C k "signs" [.int n] H (.ok (.str (sgn n))) H):
  Calls C (k+1) "parted" [aH x] H (.ok (.tup [aH (x.1++[48],half x.1.length 48 x.2),aH (x.1++[49],half x.1.length 49 x.2)])) H:=by
 refine ao F rfl (aD (ai (aa rfl) ac bd) (aD (ay (aJ (aa rfl)) (.len (.str _))) ?_))
 refine aD (bG (g:=pr) (q:=pr) (p:=fun t=>decide (sAt t.1 x.1.length=48)) (rs:=x.2) (ai (aa rfl) ac aK) (.lst _)
  (fun t h=>ag (ai (ah (aJ (ai (aa rfl) ac bC)) (Gs _ (ht t h).1 (ht t h).2)) (aa rfl) (.str (Int.natCast_nonneg _) (lQ _ hb))) aI (.eq (.self _) (.self _) rfl rfl) (mE _ _)) (fun _ _ _=>aa rfl) .lst) ?_
 refine aD (bG (g:=pr) (q:=pr) (p:=fun t=>decide (sAt t.1 x.1.length=49)) (rs:=x.2) (ai (aa rfl) ac aK) (.lst _)
  (fun t h=>ag (ai (ah (aJ (ai (aa rfl) ac bC)) (Gs _ (ht t h).1 (ht t h).2)) (aa rfl) (.str (Int.natCast_nonneg _) (lQ _ hb))) aI (.eq (.self _) (.self _) rfl rfl) (mE _ _)) (fun _ _ _=>aa rfl) .lst) ?_
 refine aQ (cg (cz (cg (cz (af (aa rfl) aI (.cat ?_)) (aa rfl))) (cg (cz (af (aa rfl) aI (.cat ?_)) (aa rfl))))) (au rfl ⟨⟨trivial,bV _ _,trivial⟩,⟨trivial,bV _ _,trivial⟩,trivial⟩)
 ·rw [List.length_singleton]; exact lin [_] [(1,.a (.v 0) (.n 1),.n 8)] 1 (.a (.v 0) (.n 1)) (.n 16000000) rfl hb
 ·rw [List.length_singleton]; exact lin [_] [(1,.a (.v 0) (.n 1),.n 8)] 1 (.a (.v 0) (.n 1)) (.n 16000000) rfl hb
theorem ca (b:Nat) (ts:Ts):(ae b ts).length≤256:=by
 have h:=jt (b:=b) 8 [] ts rfl
 have key: ∀ l:List Rm,l.length≤(l.map fun x=>2 ^ (8 - x.1.length)).sum:=by
  intro l
  induction l with
  | nil=>exact Nat.le_refl _
  | cons x l ih=>
   rw [List.map_cons,List.sum_cons,List.length_cons]
   have:0 < 2 ^ (8 - x.1.length):=Nat.two_pow_pos _
   exact lin [_,_,_] [(1,.v 0,.v 2),(1,.a (.n 0) (.n 1),.v 1)] 1 (.a (.v 0) (.n 1)) (.a (.v 1) (.v 2)) rfl ih this
 have:=key (ae b ts)
 rw [show (ae b ts)=dY b 8 [] ts from rfl,h] at this
 exact this
theorem oS {l:List Rm} (h:l.Pairwise fun x y=>x.1≠y.1) {x:Rm} (hx:x∈l):(l.map mG).lookup x.1=some (.lst (x.2.map pr)):=by
 induction l with
 | nil=>cases hx
 | cons y l ih=>
  rw [List.map_cons,dz]
  by_cases q:x.1=y.1
  ·rw [if_pos (show (x.1 == (mG y).1)=true from beq_iff_eq.mpr q)]
   rcases List.mem_cons.mp hx with rfl | hx
   ·rfl
   ·exact absurd q.symm ((List.pairwise_cons.mp h).1 x hx)
  ·rw [if_neg (show ¬ (x.1 == (mG y).1)=true from fun z=>q (beq_iff_eq.mp z))]
   rcases List.mem_cons.mp hx with rfl | hx
   ·exact absurd rfl q
   ·exact ih (List.pairwise_cons.mp h).2 hx
theorem uU {l:List Rm} {x:Rm} (h: ∀ y∈l,y.1≠x.1):jU x.1 (.lst (x.2.map pr)) (l.map mG)=(l++[x]).map mG:=by
 rw [jU,if_neg,List.map_append]; · rfl
 intro q
 obtain ⟨p,h1,h2⟩:=List.mem_map.mp q
 obtain ⟨y,h3,rfl⟩:=List.mem_map.mp h1
 exact h y h3 h2
theorem vW {a b:List Nat} (h:a < b):leV (.str a) (.str b)=true:=decide_eq_true (List.le_of_lt h)
structure DQ (H:List HO) (b:Nat) (ts:Ts) (m:Nat) (st:St) (w fd:List Rm):Prop where
 tab:st.H=H++[.list (w.map aH)]++[.dictS (fd.map mG)]
 wait:st.s "waiting" =some (.loc H.length)
 found:st.s "found" =some (.loc (H.length+1))
 bnd:st.s "bound" =some (.int b)
 ok: ∀ x∈w,WOk x
 all:im b w++fd.reverse=ae b ts
 left:iV b w=m
theorem tv {H:List HO} {x y:HO}:(H++[x]++[y])[H.length]?= some x:=by rw [List.append_assoc,List.getElem?_append_right (Nat.le_refl _),Nat.sub_self]; rfl
theorem tu {H:List HO} {x y:HO}:(H++[x]++[y])[H.length+1]?= some y:=by rw [List.getElem?_append_right (by rw [List.length_append]; exact Nat.le_refl _),List.length_append,List.length_singleton,Nat.sub_self]; rfl
theorem rU {H:List HO} {x y z:HO}:(H++[x]++[y]).set H.length z=H++[z]++[y]:=by rw [List.append_assoc,List.set_append_right _ _ (Nat.le_refl _),Nat.sub_self,List.append_assoc]; rfl
theorem Ey {H:List HO} {x y z:HO}:(H++[x]++[y]).set (H.length+1) z=H++[x]++[z]:=by
 rw [List.set_append_right _ _ (by rw [List.length_append]; exact Nat.le_refl _),List.length_append,List.length_singleton,Nat.sub_self]; rfl
theorem mj {H:List HO} {x y:HO} (h:ar H) (hx: ∀ c,x≠.inst c) (hy: ∀ c,y≠.inst c):ar (H++[x]++[y]):=fun c q=>by
 rcases List.mem_append.mp q with q | q
 ·rcases List.mem_append.mp q with q | q
  ·exact h c q
  ·exact hx c (List.mem_singleton.mp q).symm
 ·exact hy c (List.mem_singleton.mp q).symm
theorem mK (F:bc C "rooms_for" ["things", "bound"] iB) (hz:ar H) {b:Nat} (hb:1≤b) {ts:Ts} (ho:Ok ts)
  (Gp: ∀ (H:List HO) (x:Rm),x.1.length < 8→(∀ t∈x.2,0≤t.1∧t.1≤255)→Calls C k "parted" [aH x] H (.ok (.tup [aH (x.1++[48],half x.1.length 48 x.2),aH (x.1++[49],half x.1.length 49 x.2)])) H):
  Calls C (k+1) "rooms_for" [.lst (ts.map pr),.int b] H (.ok (.lst ((ae b ts).map aH))) H:=by
 refine ao F rfl (aD (aM (aJ (cg (cz aI (cu (aJ (aa rfl)) (.list (.lst _)) .lst)))) .loc) (aD km ?_))
 have left:=la (b:=b) 8 [] ts
 refine Cj (fun m st=>∃ w fd,DQ H b ts m st w fd) (iV b [([],ts)]) ⟨[([],ts)],[],⟨rfl,rfl,?_,rfl,fun x hx=>?_,?_,rfl⟩⟩ ?_ ?_
 ·show some (V.loc (H++[_]).length)=_
  rw [List.length_append]; rfl
 ·rw [List.mem_singleton.mp hx]; exact ⟨Nat.zero_le _,js _,ho⟩
 ·rw [im,List.flatMap_singleton,List.reverse_nil,List.append_nil]; rfl
 ·rintro m ⟨s,H'⟩ ⟨w,fd,⟨e1,e2,e3,e4,e5,e6,e7⟩⟩
  have e1:H'=_:=e1
  subst e1
  rcases List.eq_nil_or_concat w with rfl | ⟨w,x,rfl⟩
  ·cases e7
  rw [List.concat_eq_append] at*
  have px:WOk x:=e5 x (List.mem_append.mpr (.inr (List.mem_singleton.mpr rfl)))
  have pw: ∀ y∈w,WOk y:=fun y hy=>e5 y (List.mem_append.mpr (.inl hy))
  have g:(H++[HO.list ((w++[x]).map aH)]++[.dictS (fd.map mG)])[H.length]?= some (.list (w.map aH++[aH x])):=by rw [tv,List.map_append]; rfl
  refine ⟨_,ag (ay (aJ (aa (by exact e2))) (.len (.seq (.loc g)))) ac (.gt _ _) (decide_eq_true (Int.ofNat_lt.mpr (by rw [List.length_append]; exact Nat.succ_pos _))),fun Q' hQ=>?_⟩
  refine aD (zF (aa (by exact e2)) g) ?_
  by_cases hl:x.2.length≤b
  ·obtain ⟨t1,t2⟩:=oA (w:=w) hl
   have fresh: ∀ y∈fd,y.1≠x.1:=fun y hy=>by
    have p:=left
    rw [show dY b 8 [] ts=ae b ts from rfl,← e6,t2] at p
    exact fun z=>((List.pairwise_append.mp p).2.2 x (List.mem_append.mpr (.inr (List.mem_singleton.mpr rfl))) y (List.mem_reverse.mpr hy)).ne z.symm
   have few:fd.length < 1000000:=by
    have:=congrArg List.length e6
    rw [List.length_append,List.length_reverse] at this
    have:=ca b ts
    exact lin [_,_,_] [(1,.a (.v 1) (.v 0),.v 2),(1,.v 2,.n 256)] 1 (.a (.v 0) (.n 1)) (.n 1000000) rfl (l_e (by assumption)) this
   refine dx (ag (ay (aJ (ai (aa rfl) ac aK)) (.len (.seq (.lst _)))) (aa (by exact e4)) (.le _ _) (decide_eq_true (by rw [List.length_map]; exact Int.ofNat_le.mpr hl))) ?_
   refine qd (kvs:=fd.map mG) (ai (aa rfl) ac aK) (aa (by exact e3)) (ai (aa rfl) ac bd) (by rw [rU]; exact tu) (by rw [List.length_map]; exact few) (br (aX (br ?_)))
   refine (hQ _ ⟨w,fd++[x],⟨?_,by exact e2,by exact e3,by exact e4,pw,?_,?_⟩⟩).1
   ·show ((H++[HO.list ((w++[x]).map aH)]++[HO.dictS (fd.map mG)]).set H.length (.list (w.map aH))).set (H.length+1) (.dictS (jU x.1 (.lst (x.2.map pr)) (fd.map mG)))=_
    rw [rU,Ey,uU fresh]
   ·rw [List.reverse_append,← e6,t2,List.append_assoc]; rfl
   ·rw [t1] at e7; exact Nat.succ.inj e7
  ·obtain ⟨h1,h2,h3,_⟩:=px.split hb hl
   obtain ⟨t1,t2⟩:=oB (w:=w) hb px hl
   refine uS (ag (ay (aJ (ai (aa rfl) ac aK)) (.len (.seq (.lst _)))) (aa (by exact e4)) (.le _ _) (decide_eq_false (by rw [List.length_map]; exact fun q=>hl (Int.ofNat_le.mp q)))) ?_
   refine aD (ah (aJ (aa rfl)) (Gp _ x h1 px.2.2.low)) ?_
   have small:(w.map aH).length < 1000:=by
    have a1: ∀ l:List Rm,l.length≤(im b l).length:=fun l=>by
     induction l with
     | nil=>exact Nat.le_refl _
     | cons y l ih=>
      rw [im,List.flatMap_cons,List.length_append,List.length_cons]
      have:1≤(dY b (8 - y.1.length) y.1 y.2).length:=List.length_pos_iff.mpr (ez _ _ _)
      have ih:l.length≤(List.flatMap (fun x=>dY b (8 - x.1.length) x.1 x.2) l).length:=ih
      exact li [_,_,_] [([0],[2]),([1],[3])] [1,0] [2,3] rfl this ih
    have:=congrArg List.length e6
    rw [List.length_append] at this
    have:=ca b ts
    have:=a1 (w++[x])
    rw [List.length_append,List.length_singleton] at this
    rw [List.length_map]; exact lin [_,_,_,_] [(1,.a (.v 1) (.v 2),.v 3),(1,.v 3,.n 256),(1,.a (.v 0) (.n 1),.v 1)] 1 (.a (.v 0) (.n 1)) (.n 1000) rfl (l_e (by assumption)) (by assumption) this
   have g1:((H++[HO.list ((w++[x]).map aH)]++[HO.dictS (fd.map mG)]).set H.length (.list (w.map aH)))[H.length]?= some (.list (w.map aH)):=by rw [rU,tv]
   refine iZ (cc (aa (by exact e2)) g1 (aJ (ai (aa rfl) ac (.tup (by decide) rfl))) g1 (Nat.lt_trans small (by decide))) ?_
   have g2:(((H++[HO.list ((w++[x]).map aH)]++[HO.dictS (fd.map mG)]).set H.length (.list (w.map aH))).set H.length (.list (w.map aH++[aH (x.1++[48],half x.1.length 48 x.2)])))[H.length]?= some (.list (w.map aH++[aH (x.1++[48],half x.1.length 48 x.2)])):=by rw [rU,rU,tv]
   refine iZ (cc (aa (by exact e2)) g2 (aJ (ai (aa rfl) ac (.tup (by decide) rfl))) g2 (by rw [List.length_append,List.length_singleton]; exact Nat.lt_trans (Nat.succ_lt_succ small) (by decide))) ?_
   refine br (aX (br ?_))
   refine (hQ _ ⟨w++[(x.1++[48],half x.1.length 48 x.2),(x.1++[49],half x.1.length 49 x.2)],fd,⟨?_,by exact e2,by exact e3,by exact e4,fun y hy=>?_,?_,?_⟩⟩).1
   ·show (((H++[HO.list ((w++[x]).map aH)]++[HO.dictS (fd.map mG)]).set H.length (.list (w.map aH))).set H.length (.list (w.map aH++[aH (x.1++[48],half x.1.length 48 x.2)]))).set H.length (.list (w.map aH++[aH (x.1++[48],half x.1.length 48 x.2)]++[aH (x.1++[49],half x.1.length 49 x.2)]))=_
    rw [rU,rU,rU,List.map_append,List.append_assoc (w.map aH)]; rfl
   ·rcases List.mem_append.mp hy with hy | hy
    ·exact pw y hy
    ·rcases List.mem_cons.mp hy with rfl | hy
     ·exact h2
     ·rw [List.mem_singleton.mp hy]; exact h3
   ·rw [← t2]; exact e6
   ·rw [t1] at e7; exact Nat.succ.inj e7
 ·rintro ⟨s,H'⟩ ⟨w,fd,⟨e1,e2,e3,e4,e5,e6,e7⟩⟩
  have e1:H'=_:=e1
  subst e1
  have hw:w=[]:=by
   cases w with
   | nil=>rfl
   | cons x w=>
    have:1≤(dY b (8 - x.1.length) x.1 x.2).length:=List.length_pos_iff.mpr (ez _ _ _)
    rw [iV,List.map_cons,List.sum_cons] at e7
    exact (l_z (lin [_,_,_] [(1,.a (.v 0) (.v 1),.n 0),(2,.n 1,.v 2),(1,.m 2 (.v 2),.a (.v 0) (.n 1))] 0 (.n 1) (.n 0) rfl (l_e e7) this (l_g _ _))).elim
  subst hw
  have hfd:fd=(ae b ts).reverse:=by rw [← e6]; show fd=(([]:List Rm)++fd.reverse).reverse; rw [List.nil_append,List.reverse_reverse]
  refine ⟨_,ag (ay (aJ (aa (by exact e2))) (.len (.seq (.loc tv)))) ac (.gt _ _) rfl,?_⟩
  have ne:(ae b ts).Pairwise fun x y=>x.1≠y.1:=left.imp fun q=>q.ne
  have lk: ∀ x∈ae b ts,(fd.map mG).lookup x.1=some (.lst (x.2.map pr)):=fun x hx=>oS (by rw [hfd,List.pairwise_reverse]; exact ne.imp fun q z=>q z.symm) (by rw [hfd]; exact List.mem_reverse.mpr hx)
  have perm:((ae b ts).map fun x=>V.str x.1).Perm ((fd.map mG).map fun p=>V.str p.1):=by
   rw [hfd,List.map_map]
   exact ((List.reverse_perm _).symm).map _
  have few:=ca b ts
  refine aQ (dg (g:=fun x:Rm=>V.str x.1) (q:=aH) (rs:=ae b ts) (cu (aJ (cu (aJ (aa (by exact e3))) (.listS (mj hz (fun _=>HO.noConfusion) fun _=>HO.noConfusion) tu) .lst))
   (.sorted (.lst _) (.txts fun v hv=>?_) ?_ perm ?_) .lst) (.lst _) (fun x hx=>cg (cz (aa rfl) (ai (aa (by exact e3)) (aa rfl) (.keyS tu (lk x hx))))) .lst) ⟨rfl,fy _ _,?_⟩
  ·obtain ⟨p,_,rfl⟩:=List.mem_map.mp hv; exact ⟨_,rfl⟩
  ·rw [← perm.length_eq,List.length_map]; exact lin [_] [(1,.v 0,.n 256)] 1 (.v 0) (.n 1000000) rfl few
  ·rw [List.pairwise_map]; exact left.imp fun q=>vW q.lt
  ·show (H++[_]++[_]).take H.length=H
   rw [List.append_assoc,List.take_left]
end
end
noncomputable section
open PySem
noncomputable def lw:Ss:=
 (.cons (.asg "rows" (.list (.cons (.bin .Add (.str [98,111,117,110,100,32]) (.blt .str (.cons (.attr (.var "store") "bound") .nil))) .nil)))
 (.cons (.for_ "room" (.mcall "Store.rooms" "rooms" (.var "store") .nil) (.cons (.asg "words" (.comp (.bin .Add (.bin .Add (.bin .Add (.str [32]) (.blt .str (.cons (.idx (.var "thing") (.int 0)) .nil))) (.str [61])) (.blt .str (.cons (.idx (.var "thing") (.int 1)) .nil))) "thing" (.idx (.var "room") (.int 1))))
 (.cons (.ex (.mth .append (.var "rows") (.cons (.bin .Add (.bin .Add (.idx (.var "room") (.int 0)) (.str [58])) (.mth .join (.str []) (.cons (.var "words") .nil))) .nil)))
 .nil)))
 (.cons (.ret (.mth .join (.str [10]) (.cons (.var "rows") .nil)))
 .nil)))
noncomputable def iE:Ss:=
 (.cons (.asg "figures" (.var "word"))
 (.cons (.ite (.cmp .Eq (.slc (.var "word") .omit (.int 1)) (.str [45])) (.cons (.asg "figures" (.slc (.var "word") (.int 1) .omit))
 .nil) .nil)
 (.cons (.ite (.not (.cmp2 .LtE .LtE (.int 1) (.blt .len (.cons (.var "figures") .nil)) (.var "most"))) (.cons (.raise "NoStore")
 .nil) .nil)
 (.cons (.for_ "sign" (.var "figures") (.cons (.ite (.cmp .NotIn (.var "sign") (.str [48,49,50,51,52,53,54,55,56,57])) (.cons (.raise "NoStore")
 .nil) .nil)
 .nil))
 (.cons (.ret (.blt .int (.cons (.var "word") .nil)))
 .nil)))))
noncomputable def tU:Ss:=
 (.cons (.asg "rows" (.mth .split (.var "text") (.cons (.str [10]) .nil)))
 (.cons (.ite (.cmp .NotEq (.slc (.idx (.var "rows") (.int 0)) .omit (.int 6)) (.str [98,111,117,110,100,32])) (.cons (.raise "NoStore")
 .nil) .nil)
 (.cons (.asg "bound" (.call "number_of" (.cons (.slc (.idx (.var "rows") (.int 0)) (.int 6) .omit) (.cons (.int 2) .nil))))
 (.cons (.ite (.not (.cmp2 .LtE .LtE (.int 1) (.var "bound") (.int 64))) (.cons (.raise "NoStore")
 .nil) .nil)
 (.cons (.asg "store" (.make (.cons (.var "bound") .nil)))
 (.cons (.for_ "row" (.slc (.var "rows") (.int 1) .omit) (.cons (.asg "words" (.mth .split (.var "row") (.cons (.str [32]) .nil)))
 (.cons (.for_ "word" (.slc (.var "words") (.int 1) .omit) (.cons (.asg "parts" (.mth .split (.var "word") (.cons (.str [61]) .nil)))
 (.cons (.ite (.cmp .NotEq (.blt .len (.cons (.var "parts") .nil)) (.int 2)) (.cons (.raise "NoStore")
 .nil) .nil)
 (.cons (.asg "name" (.call "number_of" (.cons (.idx (.var "parts") (.int 0)) (.cons (.int 3) .nil))))
 (.cons (.ite (.not (.cmp2 .LtE .LtE (.int 0) (.var "name") (.int 255))) (.cons (.raise "NoStore")
 .nil) .nil)
 (.cons (.ex (.mcall "Store.put" "put" (.var "store") (.cons (.var "name") (.cons (.call "number_of" (.cons (.idx (.var "parts") (.int 1)) (.cons (.int 60) .nil))) .nil))))
 .nil))))))
 .nil)))
 (.cons (.ite (.cmp .NotEq (.call "written" (.cons (.var "store") .nil)) (.var "text")) (.cons (.raise "NoStore")
 .nil) .nil)
 (.cons (.ret (.var "store"))
 .nil))))))))
noncomputable def tZ (ts:Ts):Prop:=∀ t∈ts,t.2.natAbs < 10 ^ 60
theorem oY (i:Int):aw i=aw (i.natAbs:Int)∨aw i=45::aw (i.natAbs:Int):=by
 cases i with
 | ofNat m=>exact .inl rfl
 | negSucc m=>exact .inr (ec m)
theorem fQ {i:Int} {n:Nat} (hn:0 < n) (h:i.natAbs < 10 ^ n):(aw i).length≤n+1:=by
 have:=cO hn h
 rcases oY i with e | e
 ·rw [e]; exact li [_,n] [([1],[2])] [1] [2,0] rfl this
 ·rw [e,List.length_cons]; exact li [_,n] [([1],[2])] [1,0] [2,0] rfl this
theorem mY {t:Int×Int} (h1:0≤t.1∧t.1≤255) (h2:t.2.natAbs < 10 ^ 60):(aw t.1).length≤4∧(aw t.2).length≤61:=
 ⟨fQ (n:=3) (by decide) (by have:=h1.1; have:=h1.2; lia),fQ (n:=60) (by decide) h2⟩
theorem qH {α:Type} (f:α→List Nat) (l:List α):bf [] (l.map f)=l.flatMap f:=by
 cases l with
 | nil=>rfl
 | cons x l=>rw [List.map_cons,bf,List.flatMap_cons,List.flatMap_map]; rfl
theorem mq {sep:List Nat} {B:Nat} (ss:List (List Nat)) (h: ∀ s∈ss,s.length≤B):(bf sep ss).length≤ss.length*(B+sep.length):=by
 cases ss with
 | nil=>exact Nat.zero_le _
 | cons p ss=>
  have key: ∀ l:List (List Nat),(∀ s∈l,s.length≤B)→(l.flatMap fun q=>sep++q).length≤l.length*(B+sep.length):=by
   intro l
   induction l with
   | nil=>exact fun _=>Nat.zero_le _
   | cons q l ih=>
    intro h
    rw [List.flatMap_cons,List.length_append,List.length_append,List.length_cons,Nat.succ_mul]
    have:=h q List.mem_cons_self
    have:=ih fun s hs=>h s (List.mem_cons_of_mem _ hs)
    exact lin [_,_,_,_,B] [(1,.v 1,.v 4),(1,.v 2,.v 3)] 1 (.a (.a (.v 0) (.v 1)) (.v 2)) (.a (.v 3) (.a (.v 4) (.v 0))) rfl (by assumption) this
  rw [bf,List.length_append,List.length_cons,Nat.succ_mul]
  have:=h p List.mem_cons_self
  have:=key ss fun s hs=>h s (List.mem_cons_of_mem _ hs)
  exact lin [_,_,_,B,_] [(1,.v 0,.v 3),(1,.v 1,.v 2)] 1 (.a (.v 0) (.v 1)) (.a (.v 2) (.a (.v 3) (.v 4))) rfl (by assumption) this
theorem oX {α:Type} {f:α→List Nat} {B:Nat} (l:List α) (h: ∀ x∈l,(f x).length≤B):(l.flatMap f).length≤l.length*B:=by
 induction l with
 | nil=>exact Nat.zero_le _
 | cons x l ih=>
  rw [List.flatMap_cons,List.length_append,List.length_cons,Nat.succ_mul]
  have:=h x List.mem_cons_self
  have:=ih fun s hs=>h s (List.mem_cons_of_mem _ hs)
  exact li [_,_,_,B] [([1],[4]),([2],[3])] [1,2] [3,4] rfl (by assumption) this
theorem gw {α:Type} (xs:List α) (n:Nat):slice xs (gk xs.length (some (n:Int))) (gF xs.length none)=xs.drop n:=by
 show ((xs.take xs.length).drop (cut xs.length n))=_
 rw [List.take_length,cut,if_neg (Int.not_lt.mpr (Int.natCast_nonneg n)),Int.toNat_natCast]
 by_cases h:n≤xs.length
 ·rw [Nat.min_eq_left h]
 ·rw [Nat.min_eq_right (Nat.le_of_not_le h),List.drop_length,List.drop_eq_nil_of_le (Nat.le_of_not_le h)]
structure Stk (b:Nat) (ts:Ts):Prop where
 b1:1≤b
 b64:b≤64
 ok:Ok ts
 vals:tZ ts
section
variable {b:Nat} {ts:Ts}
theorem Stk.room (g:Stk b ts) {x:Rm} (hx:x∈ae b ts):x.1.length≤8∧x.2.length≤64∧(∀ t∈x.2,(0≤t.1∧t.1≤255)∧t.2.natAbs < 10 ^ 60)∧∀ c∈x.1,c=48∨c=49:=by
 have h1:=lc 8 [] ts (fun c h=>by cases h) x hx
 have h2:=nQ g.b1 8 [] ts rfl (js _) g.ok x hx
 have h3:=qN 8 [] ts rfl (js _) x hx
 refine ⟨by have:=h1.1; exact this,Nat.le_trans h2 g.b64,fun t ht=>?_,h1.2⟩
 rw [h3] at ht
 have:=(List.mem_filter.mp ht).1
 exact ⟨g.ok.low t this,g.vals t this⟩
theorem kG {t:Int×Int} (h:(0≤t.1∧t.1≤255)∧t.2.natAbs < 10 ^ 60):(eh t).length≤66:=by
 obtain ⟨h1,h2⟩:=mY h.1 h.2
 rw [eh,List.length_append,List.length_cons]; exact lin [_,_] [(1,.v 0,.n 4),(1,.v 1,.n 61)] 1 (.a (.v 0) (.a (.v 1) (.n 1))) (.n 66) rfl h1 h2
theorem Stk.words (g:Stk b ts) {x:Rm} (hx:x∈ae b ts):(x.2.flatMap fun t=>32::eh t).length≤64*67:=by
 obtain ⟨h1,h2,h3,_⟩:=g.room hx
 refine Nat.le_trans (oX (B:=67) x.2 fun t ht=>?_) (Nat.mul_le_mul_right _ h2)
 have:=kG (h3 t ht)
 rw [List.length_cons]; exact lin [_] [(1,.v 0,.n 66)] 1 (.a (.v 0) (.n 1)) (.n 67) rfl this
theorem Stk.row (g:Stk b ts) {x:Rm} (hx:x∈ae b ts):(lD x).length≤5000:=by
 have h1:=(g.room hx).1
 have h2:=g.words hx
 rw [lD,List.length_append,List.length_cons]; exact lin [_,_] [(1,.v 0,.n 8),(1,.v 1,.m 64 (.n 67))] 1 (.a (.v 0) (.a (.v 1) (.n 1))) (.n 5000) rfl h1 h2
theorem ls (h:b≤64):(cD b).length≤10:=by
 have:=cO (m:=b) (k:=2) (by decide) (by lia)
 rw [cD,List.length_append]; exact Nat.le_trans (Nat.add_le_add_left this 6) (by decide)
theorem Stk.rows (g:Stk b ts):(et b ts).length≤257∧∀ r∈et b ts,r.length≤5000:=by
 refine ⟨by rw [et,List.length_cons,List.length_map]; exact Nat.succ_le_succ (ca b ts),fun r hr=>?_⟩
 rcases List.mem_cons.mp hr with rfl | hr
 ·exact Nat.le_trans (ls g.b64) (by decide)
 ·obtain ⟨x,hx,rfl⟩:=List.mem_map.mp hr
  exact g.row hx
theorem Stk.text (g:Stk b ts):(iW b ts).length+((et b ts).length+1)*([10].length+1)≤2000000:=by
 have h1:=mq (sep:=[10]) (et b ts) g.rows.2
 have h2:(et b ts).length*(5000+[10].length)≤257*5001:=Nat.mul_le_mul_right _ g.rows.1
 have h3:=g.rows.1
 show (bf [10] (et b ts)).length+((et b ts).length+1)*2≤2000000
 omega
end
section
variable {C:Cx} {k:Nat} {H:List HO} {i j:Nat} {b:Nat} {ts:Ts}
theorem cp.ext {b:Int} (S:cp H i j b ts) (L:List HO):cp (H++L) i j b ts:=⟨by rw [List.getElem?_append_left (List.getElem?_eq_some_iff.mp S.obj).1]; exact S.obj,by rw [List.getElem?_append_left (List.getElem?_eq_some_iff.mp S.att).1]; exact S.att⟩
theorem cj {H:List HO} {x:HO}:(H++[x])[H.length]?= some x:=by rw [List.getElem?_append_right (Nat.le_refl _),Nat.sub_self]; rfl
theorem fo {H:List HO} {x z:HO}:(H++[x]).set H.length z=H++[z]:=by rw [List.set_append_right _ _ (Nat.le_refl _),Nat.sub_self]; rfl
theorem mm {H:List HO} {x:HO} (h:ar H) (hx: ∀ c,x≠.inst c):ar (H++[x]):=fun c q=>by
 rcases List.mem_append.mp q with q | q
 ·exact h c q
 ·exact hx c (List.mem_singleton.mp q).symm
theorem cr {α:Type} {f:α→V} {l:List α} {i:Nat} {v:V} (h:(l.map f)[i]?= some v): ∃ hi:i < l.length,v=f l[i]:=by
 rw [List.getElem?_map] at h
 obtain ⟨t,h1,rfl⟩:=Option.map_eq_some_iff.mp h
 obtain ⟨h2,rfl⟩:=List.getElem?_eq_some_iff.mp h1
 exact ⟨h2,rfl⟩
theorem rx (F:bc C "written" ["store"] lw) (hz:ar H) (g:Stk b ts) (S:cp H i j b ts)
  (Gr: ∀ H:List HO,ar H→cp H i j b ts→Calls C k "Store.rooms" [.loc i] H (.ok (.lst ((ae b ts).map aH))) H):Calls C (k+1) "written" [.loc i] H (.ok (.str (iW b ts))) H:=by
 refine ao F rfl (aD (aM (aJ (af aI (ay (aJ (bK (aa rfl) S.at rfl)) (.str ?_)) (.cat ?_))) .loc) ?_)
 ·have:=g.b64; exact Nat.lt_of_le_of_lt this (by decide)
 ·have:=ls g.b64
  rw [cD,List.length_append] at this
  exact Nat.le_trans this (by decide)
 refine cW (fun l st=>st.H=H++[.list ((cD b::((ae b ts).take l).map lD).map .str)]∧st.s "rows" =some (.loc H.length))
  (aV (aa rfl) (S.ext _).at rfl aL (Gr _ (mm hz fun _=>HO.noConfusion) (S.ext _))) (.lst _) ⟨rfl,rfl⟩ ?_ ?_
 ·rintro l w ⟨s,H'⟩ hw ⟨e1,e2⟩ Q' hQ
  have e1:H'=_:=e1
  subst e1
  obtain ⟨hl,rfl⟩:=cr hw
  generalize hx:(ae b ts)[l]=x
  have mx:x∈ae b ts:=hx▸List.getElem_mem hl
  obtain ⟨h1,h2,h3,_⟩:=g.room mx
  refine aD (rd (g:=pr) (q:=fun t=>V.str (32::eh t)) (rs:=x.2) (ai (aa rfl) ac aK) (.lst _) (fun t ht=>?_) .lst) ?_
  ·obtain ⟨l1,l2⟩:=mY (h3 t ht).1 (h3 t ht).2
   have a1:t.1.natAbs < 10 ^ 100:=Nat.lt_of_le_of_lt (by have:=(h3 t ht).1.1; have:=(h3 t ht).1.2; lia:t.1.natAbs≤255) (by decide)
   have a2:t.2.natAbs < 10 ^ 100:=Nat.lt_trans (h3 t ht).2 (by decide)
   refine bw (af (af (af aI (ay (aJ (ai (aa rfl) ac bC)) (.str a1)) (.cat ?_)) aI (.cat ?_)) (ay (aJ (ai (aa rfl) ac jX)) (.str a2)) (.cat ?_)) (congrArg V.str ?_)
   ·simp only [List.length_singleton]; exact lin [_] [(1,.v 0,.n 4)] 1 (.a (.n 1) (.v 0)) (.n 16000000) rfl l1
   ·simp only [List.length_append,List.length_singleton]; exact lin [_] [(1,.v 0,.n 4)] 1 (.a (.a (.n 1) (.v 0)) (.n 1)) (.n 16000000) rfl l1
   ·simp only [List.length_append,List.length_singleton]; exact lin [_,_] [(1,.v 0,.n 4),(1,.v 1,.n 61)] 1 (.a (.a (.a (.n 1) (.v 0)) (.n 1)) (.v 1)) (.n 16000000) rfl l1 l2
   ·rw [eh,List.append_assoc,List.append_assoc]; rfl
  ·have vw:fY (H++[HO.list ((cD b::((ae b ts).take l).map lD).map .str)]) (.lst (x.2.map fun t=>V.str (32::eh t))) ((x.2.map fun t=>32::eh t).map .str):=by
    rw [List.map_map]; exact .lst _
   have hj:=qH (fun t=>32::eh t) x.2
   have hw:=g.words mx
   have hs:(bf [] (x.2.map fun t=>32::eh t)).length+((x.2.map fun t=>32::eh t).length+1)*(([]:List Nat).length+1)≤16000000:=by
    rw [hj,List.length_map]
    show _+(x.2.length+1)*1≤_
    lia
   refine iZ (cc (aa (by exact e2)) cj (aJ (bw (af (af (ai (aa rfl) ac bd) aI (.cat ?_)) (io aI (.join _) (aJ (aa rfl)) (.join vw hs)) (.cat ?_)) (v':=.str (lD x)) (congrArg V.str ?_))) cj ?_) (br (hQ _ (by
    refine ⟨?_,e2⟩
    show (H++[HO.list ((cD b::((ae b ts).take l).map lD).map .str)]).set H.length _=_
    rw [fo,List.take_succ_eq_append_getElem hl,hx,List.map_append,← List.cons_append,List.map_append]; rfl)).1)
   ·rw [List.length_singleton]; exact lin [_] [(1,.v 0,.n 8)] 1 (.a (.v 0) (.n 1)) (.n 16000000) rfl h1
   ·rw [hj,List.length_append,List.length_singleton]; exact lin [_,_] [(1,.v 0,.n 8),(1,.v 1,.m 64 (.n 67))] 1 (.a (.a (.v 0) (.n 1)) (.v 1)) (.n 16000000) rfl h1 hw
   ·rw [hj,lD,List.append_assoc]; rfl
   ·rw [List.length_map,List.length_cons,List.length_map,List.length_take]
    have:=ca b ts
    exact lin [_,l,_] [(1,.a (.v 1) (.n 1),.v 2),(1,.v 2,.n 256),(1,.v 0,.v 1)] 1 (.a (.a (.v 0) (.n 1)) (.n 1)) (.n 16000000) rfl hl this (Nat.min_le_left _ _)
 ·rintro ⟨s,H'⟩ ⟨e1,e2⟩
  have e1:H'=_:=e1
  subst e1
  have e3:(cD b::((ae b ts).take ((ae b ts).map aH).length).map lD)=et b ts:=by rw [List.length_map,List.take_length]; rfl
  have hs:=g.text
  refine aQ (io aI (.join _) (aJ (aa (by exact e2))) (.join (ss:=et b ts) (.loc (by rw [← e3]; exact cj)) (Nat.le_trans hs (by decide)))) ⟨rfl,trivial,?_⟩
  show (H++[_]).take H.length=H
  rw [List.take_left]
theorem te (F:bc C "number_of" ["word", "most"] iE) (i:Int) {most:Nat} (hm:(aw (i.natAbs:Int)).length≤most) (hm':most≤300):Calls C (k+1) "number_of" [.str (aw i),.int most] H (.ok (.int i)) H:=by
 have fg:=gG i.natAbs
 have ne:=rk i.natAbs
 have dv:=mH i.natAbs
 have l1:1≤(aw (i.natAbs:Int)).length:=List.length_pos_iff.mpr ne
 refine ao F rfl (aD (aa rfl) ?_)
 have tail: ∀ st:St,st.H=H→st.s "figures" =some (.str (aw (i.natAbs:Int)))→st.s "word" =some (.str (aw i))→st.s "most" =some (.int most)→
   wSs (Calls C k) C.glo (.cons (.ite (.not (.cmp2 .LtE .LtE (.int 1) (.blt .len (.cons (.var "figures") .nil)) (.var "most"))) (.cons (.raise "NoStore") .nil) .nil) (.cons (.for_ "sign" (.var "figures") (.cons (.ite (.cmp .NotIn (.var "sign") (.str [48,49,50,51,52,53,54,55,56,57])) (.cons (.raise "NoStore") .nil) .nil) .nil)) (.cons (.ret (.blt .int (.cons (.var "word") .nil))) .nil))) st (fun fl st=>oI fl=.int i∧low H.length (.int i)∧st.H.take H.length=H) noX:=by
  rintro ⟨s,H'⟩ e1 e2 e3 e4
  have e1:H'=H:=e1
  subst e1
  refine aG (cJ (fE ac (ay (aJ (aa (by exact e2))) (.len (.str _))) (dq (Int.ofNat_le.mpr l1)) (aa (by exact e4)) (dq (Int.ofNat_le.mpr hm)))) ?_
  refine cW (fun l st=>st.H=H'∧st.s "word" =some (.str (aw i))) (aa (by exact e2)) (.str _) ⟨rfl,e3⟩ ?_ ?_
  ·rintro l w ⟨s,H'⟩ hw ⟨q1,q2⟩ Q' hQ
   have q1:H'=_:=q1
   subst q1
   obtain ⟨hl,rfl⟩:=cr hw
   refine aG (ag (aa rfl) aI (.nin (.sign _ _)) ?_) (br (hQ _ (by exact ⟨rfl,q2⟩)).1)
   have:=fg _ (List.getElem_mem hl)
   generalize (aw (i.natAbs:Int))[l]=c at this
   rw [decide_eq_true (by simp only [List.mem_cons,List.not_mem_nil,or_false]; lia)]; rfl
  ·rintro ⟨s,H'⟩ ⟨q1,q2⟩
   have q1:H'=_:=q1
   subst q1
   cases i with
   | ofNat m=>exact aQ (bw (ay (aJ (aa (by exact q2))) (.intT fg ne (Nat.le_trans hm hm'))) (congrArg (fun n:Nat=>V.int n) dv)) (au rfl trivial)
   | negSucc m=>
    rw [ec] at q2
    exact aQ (bw (ay (aJ (aa (by exact q2))) (.intN fg ne (Nat.le_trans hm hm'))) (congrArg (fun n:Nat=>V.int (-(n:Int))) dv)) (au rfl trivial)
 cases i with
 | ofNat m=>
  refine aG (ag (bJ (aa rfl) rfl ac (.str _)) aI (.eq (.self _) (.self _) rfl rfl) ?_) (tail _ rfl rfl rfl rfl)
  rw [dZ]
  refine decide_eq_false fun q=>?_
  rw [show ((1:Int))=((1:Nat):Int) from rfl,bU] at q
  have h45:45∈aw ((m:Nat):Int):=List.mem_of_mem_take (show 45∈(aw ((m:Nat):Int)).take 1 by rw [show aw ((m:Nat):Int)=aw (Int.ofNat m) from rfl,q]; exact List.mem_cons_self)
  have:=gG m 45 h45
  exact l_z (lin [] [(1,.n 48,.n 45)] 0 (.n 1) (.n 0) rfl this.1)
 | negSucc m=>
  have e0:aw (Int.negSucc m)=45::aw ((Int.negSucc m).natAbs:Int):=ec m
  refine dx (ag (bJ (aa rfl) rfl ac (.str _)) aI (.eq (.self _) (.self _) rfl rfl) ?_) (aD (eS (aa rfl) rfl ac (.str _)) (br (aX (tail _ rfl ?_ rfl rfl))))
  ·rw [dZ,show ((1:Int))=((1:Nat):Int) from rfl,bU,e0]; rfl
  ·show some (V.str (slice (aw (Int.negSucc m)) (gk _ (some ((1:Nat):Int))) (gF _ none)))=_
   rw [gw,e0]; rfl
end
end
noncomputable section
open PySem
section
variable {C:Cx} {k:Nat} {H:List HO} {b:Nat} {ts:Ts}
theorem kY (ts us ws:Ts):ew ts (us++ws)=ew (ew ts us) ws:=by rw [ew,ew,ew,List.foldl_append]
theorem pn (b:Nat):(cD b).take 6=[98,111,117,110,100,32]:=rfl
theorem pv (b:Nat):(cD b).drop 6=aw (b:Int):=rfl
theorem qS (b:Nat) (ts:Ts) {l:Nat} (h:l < (ae b ts).length):((ae b ts).take (l+1)).flatMap (·.2)=((ae b ts).take l).flatMap (·.2)++(ae b ts)[l].2:=by
 rw [List.take_succ_eq_append_getElem h,List.flatMap_append,List.flatMap_singleton]
theorem stAt2 {b:Int}:cp (H++[stA b ts]++[HO.obj H.length]) (H.length+1) H.length b ts:=⟨tu,tv⟩
theorem zM (F:bc C "read" ["text"] tU) (hz:ar H) (g:Stk b ts)
  (Gn: ∀ (H:List HO) (i:Int) (most:Nat),(aw (i.natAbs:Int)).length≤most→most≤300→Calls C k "number_of" [.str (aw i),.int most] H (.ok (.int i)) H)
  (Gi:Calls C k "Store.__init__" [.loc (H.length+1),.int b] (H++[HO.attrs []]++[HO.obj H.length]) (.ok .none) ((H++[HO.attrs []]++[HO.obj H.length]).set H.length (stA b [])))
  (Gp: ∀ (us:Ts) (n v:Int),us.length≤1000000→0≤n→n≤255→Calls C k "Store.put" [.loc (H.length+1),.int n,.int v] (H++[stA b us]++[HO.obj H.length]) (.ok (gc us n)) ((H++[stA b us]++[HO.obj H.length]).set H.length (stA b (ce us n v))))
  (Gw:Calls C k "written" [.loc (H.length+1)] (H++[stA b ts]++[HO.obj H.length]) (.ok (.str (iW b ts))) (H++[stA b ts]++[HO.obj H.length])):
  Calls C (k+1) "read" [.str (iW b ts)] H (.ok (.loc (H.length+1))) (H++[stA b ts]++[HO.obj H.length]):=by
 have ht:(iW b ts).length≤16000000:=by have:=g.text; exact lin [_,_] [(1,.a (.v 0) (.v 1),.n 2000000)] 1 (.v 0) (.n 16000000) rfl this
 have r0:(et b ts).map V.str=V.str (cD b)::((ae b ts).map lD).map .str:=rfl
 have db:(aw ((b:Int).natAbs:Int)).length≤2:=cO (m:=b) (k:=2) (by decide) (by have:=g.b64; lia)
 have i0: ∀ H:List HO,Idx H (.lst ((et b ts).map .str)) (.int 0) (.str (cD b)):=fun H=>.seq (.lst _) (by decide) rfl
 refine ee F rfl (aD (mC (aa rfl) (.split _) (aJ aI) (.split (ps:=et b ts) ht (fun e=>nomatch e) rfl (qf b ts)) .lst) ?_)
 refine aG (ag (bJ (ai (aa rfl) ac (i0 _)) rfl ac (.str _)) aI (.ne (.self _) (.self _) rfl rfl) (by rw [show ((6:Int))=((6:Nat):Int) from rfl,bU,pn,mF]; rfl)) ?_
 refine aD (ah (cz (bw (eS (ai (aa rfl) ac (i0 _)) rfl ac (.str _)) (v':=.str (aw (b:Int))) (by rw [show ((6:Int))=((6:Nat):Int) from rfl,gw,pv])) ac) (Gn _ b 2 db (by decide))) ?_
 refine aG (cJ (fE ac (aa rfl) (dq (Int.ofNat_le.mpr g.b1)) ac (dq (Int.ofNat_le.mpr g.b64)))) ?_
 refine aD (qX (aJ (aa rfl)) Gi) ?_
 have all:(ae b ts).flatMap (·.2)=((ae b ts).take (ae b ts).length).flatMap (·.2):=by rw [List.take_length]
 have cnt: ∀ l,(((ae b ts).take l).flatMap (·.2)).length≤20000:=fun l=>by
  have a1: ∀ xs:List Rm,(∀ x∈xs,x.2.length≤64)→(xs.flatMap (·.2)).length≤xs.length*64:=by
   intro xs
   induction xs with
   | nil=>exact fun _=>Nat.zero_le _
   | cons x xs ih=>
    intro h
    rw [List.flatMap_cons,List.length_append,List.length_cons,Nat.succ_mul]
    have:=h x List.mem_cons_self
    have:=ih fun s hs=>h s (List.mem_cons_of_mem _ hs)
    exact lin [_,_,_] [(1,.v 0,.n 64),(1,.v 1,.v 2)] 1 (.a (.v 0) (.v 1)) (.a (.v 2) (.n 64)) rfl (by assumption) this
  have:=a1 ((ae b ts).take l) fun x hx=>(g.room (List.mem_of_mem_take hx)).2.1
  rw [List.length_take] at this
  have:=ca b ts
  have:min l (ae b ts).length*64≤256*64:=Nat.mul_le_mul_right _ (by exact lin [_,_] [(1,.v 1,.n 256),(1,.v 0,.v 1)] 1 (.v 0) (.n 256) rfl this (Nat.min_le_right _ _))
  exact lin [_,_] [(1,.v 0,.v 1),(1,.v 1,.m 256 (.n 64))] 1 (.v 0) (.n 20000) rfl (by assumption) this
 have sl: ∀ (xs:List V),slice xs (gk xs.length (some (1:Int))) (gF xs.length none)=xs.drop 1:=fun xs=>gw xs 1
 refine cW (fun l st=>st.H=H++[stA b (ew [] (((ae b ts).take l).flatMap (·.2)))]++[HO.obj H.length]∧st.s "store" =some (.loc (H.length+1))∧st.s "text" =some (.str (iW b ts)))
  (eS (aa rfl) rfl ac (.seq (.lst _) .lst)) (by rw [sl,r0]; exact .lst _) ⟨by show List.set _ _ _=_; rw [rU]; rfl,rfl,rfl⟩ ?_ ?_
 ·rintro l w ⟨s,H'⟩ hw ⟨e1,e2,e3⟩ Q' hQ
  have e1:H'=_:=e1
  subst e1
  have hw:(((ae b ts).map lD).map V.str)[l]?= some w:=hw
  rw [List.map_map] at hw
  obtain ⟨hl,rfl⟩:=cr hw
  have fl:=qS b ts hl
  have cl:=cnt l
  generalize hx:(ae b ts)[l]=x at*
  have mx:x∈ae b ts:=hx▸List.getElem_mem hl
  generalize ((ae b ts).take l).flatMap (·.2)=pre at*
  obtain ⟨h1,h2,h3,h4⟩:=g.room mx
  have rl:=g.row mx
  refine aD (mC (aa rfl) (.split _) (aJ aI) (.split (ps:=mX x) (Nat.le_trans rl (by decide)) (fun e=>nomatch e) (qg x) (oy h4)) .lst) ?_
  refine cW (fun m st=>st.H=H++[stA b (ew [] (pre++x.2.take m))]++[HO.obj H.length]∧st.s "store" =some (.loc (H.length+1))∧st.s "text" =some (.str (iW b ts)))
   (eS (aa rfl) rfl ac (.seq (.lst _) .lst)) (items:=(x.2.map eh).map .str) (by rw [sl]; exact .lst _) ⟨by rw [List.take_zero,List.append_nil]; rfl,e2,e3⟩ ?_ ?_
  ·rintro m w ⟨s,H'⟩ hw ⟨q1,q2,q3⟩ Q' hQ
   have q1:H'=_:=q1
   subst q1
   rw [List.map_map] at hw
   obtain ⟨hm,rfl⟩:=cr hw
   generalize ht:x.2[m]=t at*
   have mt:t∈x.2:=ht▸List.getElem_mem hm
   obtain ⟨⟨n0,n1⟩,v0⟩:=h3 t mt
   have wl:=kG (h3 t mt)
   have d1:(aw (t.1.natAbs:Int)).length≤3:=cO (by decide) (by lia)
   have d2:(aw (t.2.natAbs:Int)).length≤60:=cO (by decide) v0
   refine aD (mC (aa rfl) (.split _) (aJ aI) (.split (ps:=[aw t.1,aw t.2]) (Nat.le_trans wl (by decide)) (fun e=>nomatch e) (oz t) (oO t)) .lst) ?_
   refine aG (ag (ay (aJ (aa rfl)) (.len (.seq (.lst _)))) ac bz fw) ?_
   refine aD (ah (cz (ai (aa rfl) ac (.seq (.lst _) (by decide) rfl)) ac) (Gn _ t.1 3 d1 (by decide))) ?_
   refine aG (cJ (fE ac (aa rfl) (dq n0) ac (dq n1))) ?_
   have len:(ew [] (pre++x.2.take m)).length≤1000000:=by
    have:=qG (pre++x.2.take m) []
    rw [List.length_append,List.length_take,List.length_nil] at this
    exact lin [_,_,_,m,_] [(1,.v 1,.n 20000),(1,.v 2,.n 64),(1,.a (.v 3) (.n 1),.v 2),(1,.v 0,.a (.n 0) (.a (.v 1) (.v 4))),(1,.v 4,.v 3)] 1 (.v 0) (.n 1000000) rfl cl h2 hm this (Nat.min_le_left _ _)
   refine iZ (gH (aa (by exact q2)) stAt2.at rfl (cz (aa rfl) (ah (cz (ai (aa rfl) ac (.seq (.lst _) (by decide) rfl)) ac) (Gn _ t.2 60 d2 (by decide)))) (Gp _ t.1 t.2 len n0 n1)) (br (hQ _ (by
    refine ⟨?_,q2,q3⟩
    show List.set _ _ _=_
    rw [rU,List.take_succ_eq_append_getElem hm,ht,← List.append_assoc,kY _ (pre++x.2.take m) [t]]; rfl)).1)
  ·rintro ⟨s,H'⟩ ⟨q1,q2,q3⟩
   have q1:H'=_:=q1
   subst q1
   refine br (hQ _ (by
    refine ⟨?_,q2,q3⟩
    show H++_++_=_
    rw [fl,List.length_map,List.length_map,List.take_length])).1
 ·rintro ⟨s,H'⟩ ⟨e1,e2,e3⟩
  have e4:ew [] (((ae b ts).take (List.drop 1 (V.str (cD b)::((ae b ts).map lD).map V.str)).length).flatMap (·.2))=ts:=by
   show ew [] (((ae b ts).take (((ae b ts).map lD).map V.str).length).flatMap (·.2))=ts
   rw [List.length_map,List.length_map,List.take_length]; exact oU g.ok.up
  rw [e4] at e1
  have e1:H'=_:=e1
  subst e1
  refine aG (ag (ah (aJ (aa (by exact e2))) Gw) (aa (by exact e3)) (.ne (.self _) (.self _) rfl rfl) (by rw [mF]; rfl)) (aQ (aa (by exact e2)) ⟨rfl,rfl⟩)
end
end
noncomputable section
open PySem
noncomputable def jA:Ss:=
 (.cons (.asg "_law_frame" (.call "_law_cell_at" (.cons (.var "_law_script") (.cons (.int 1) .nil))))
 (.cons (.ite (.cmp .Eq (.bin .Mod (.var "_law_frame") (.int 2)) (.int 1)) (.cons (.ret (.bin .Mod (.bin .Mult (.bin .Sub (.bin .Add (.bin .Mult (.bin .Mod (.bin .FloorDiv (.var "_law_frame") (.int 2)) (.int 16)) (.int 16)) (.bin .Mod (.var "_law_more") (.int 16))) (.int 37)) (.int 3)) (.int 256)))
 .nil) .nil)
 (.cons (.ret (.bin .Mod (.var "_law_more") (.int 256)))
 .nil)))
noncomputable def iI:Ss:=
 (.cons (.ite (.cmp .Eq (.bin .Mod (.var "_law_cell") (.int 7)) (.int 2)) (.cons (.ret (.bin .Mod (.bin .Add (.bin .Mult (.var "_law_cell") (.int 48271)) (.var "_law_k")) (.bin .Pow (.int 10) (.int 60))))
 .nil) .nil)
 (.cons (.ite (.cmp .Eq (.bin .Mod (.var "_law_cell") (.int 7)) (.int 3)) (.cons (.ret (.bin .Sub (.int 0) (.bin .FloorDiv (.bin .Sub (.bin .Sub (.bin .Pow (.int 10) (.int 60)) (.int 1)) (.bin .Mod (.bin .FloorDiv (.var "_law_cell") (.int 7)) (.bin .Pow (.int 10) (.int 20)))) (.bin .Add (.int 1) (.bin .Mod (.bin .FloorDiv (.var "_law_cell") (.int 7)) (.int 3))))))
 .nil) .nil)
 (.cons (.ret (.bin .Sub (.bin .Mod (.bin .Add (.bin .FloorDiv (.var "_law_cell") (.int 7)) (.bin .Mult (.int 13) (.var "_law_k"))) (.int 2003)) (.int 1001)))
 .nil)))
noncomputable def iM:Ss:=
 (.cons (.ite (.cmp .Eq (.bin .Mod (.var "_law_cell") (.int 4)) (.int 1)) (.cons (.ret (.bin .Add (.int 1) (.bin .Mod (.bin .FloorDiv (.var "_law_cell") (.int 4)) (.int 64))))
 .nil) .nil)
 (.cons (.ret (.bin .Add (.int 1) (.bin .Mod (.bin .FloorDiv (.var "_law_cell") (.int 4)) (.int 3))))
 .nil))
noncomputable def jz:Ss:=
 (.cons (.ite (.cmp .Gt (.blt .len (.cons (.var "_law_script") .nil)) (.int 63)) (.cons (.ret (.int 98))
 .nil) .nil)
 (.cons (.ret (.int 32))
 .nil))
noncomputable def eo:Ss:=
 (.cons (.asg "_law_cell" (.idx (.var "_law_script") (.var "_law_k")))
 (.cons (.asg "_law_more" (.bin .FloorDiv (.var "_law_cell") (.int 16)))
 (.cons (.ite (.cmp .Lt (.bin .Mod (.var "_law_cell") (.int 16)) (.int 9)) (.cons (.ret (.list (.cons (.tup (.cons (.str [112,117,116]) (.cons (.call "_law_name" (.cons (.var "_law_script") (.cons (.var "_law_more") .nil))) (.cons (.call "_law_value" (.cons (.var "_law_cell") (.cons (.var "_law_k") .nil))) .nil)))) .nil)))
 .nil) .nil)
 (.cons (.ite (.and (.cons (.cmp .Lt (.bin .Mod (.var "_law_cell") (.int 16)) (.int 13)) (.cons (.cmp .NotEq (.var "_law_known") (.list .nil)) (.cons (.cmp .Gt (.bin .Mod (.var "_law_cell") (.int 3)) (.int 0)) .nil)))) (.cons (.ret (.list (.cons (.tup (.cons (.str [116,97,107,101]) (.cons (.idx (.var "_law_known") (.bin .Mod (.var "_law_more") (.blt .len (.cons (.var "_law_known") .nil)))) (.cons (.int 0) .nil)))) .nil)))
 .nil) .nil)
 (.cons (.ite (.cmp .Lt (.bin .Mod (.var "_law_cell") (.int 16)) (.int 13)) (.cons (.ret (.list (.cons (.tup (.cons (.str [116,97,107,101]) (.cons (.call "_law_name" (.cons (.var "_law_script") (.cons (.var "_law_more") .nil))) (.cons (.int 0) .nil)))) .nil)))
 .nil) .nil)
 (.cons (.asg "_law_kind" (.idx (.list (.cons (.str [112,117,116]) (.cons (.str [112,117,116]) (.cons (.str [116,97,107,101]) .nil)))) (.bin .Sub (.bin .Mod (.var "_law_cell") (.int 16)) (.int 13))))
 (.cons (.ret (.compX (.tup (.cons (.var "_law_kind") (.cons (.call "_law_name" (.cons (.var "_law_script") (.cons (.bin .Add (.bin .FloorDiv (.var "_law_more") (.int 7)) (.var "_law_j")) .nil))) (.cons (.call "_law_value" (.cons (.bin .Add (.var "_law_cell") (.var "_law_j")) (.cons (.var "_law_k") .nil))) .nil)))) "_law_j" (.blt .range (.cons (.bin .Mod (.var "_law_more") (.int 7)) .nil))))
 .nil)))))))
noncomputable def fT:Ss:=
 (.cons (.asg "_law_found" (.compIf (.var "_law_one") "_law_one" (.var "_law_plain") (.cmp .NotEq (.idx (.var "_law_one") (.int 0)) (.idx (.var "_law_deed") (.int 1)))))
 (.cons (.ite (.cmp .Eq (.idx (.var "_law_deed") (.int 0)) (.str [112,117,116])) (.cons (.ex (.mth .append (.var "_law_found") (.cons (.tup (.cons (.idx (.var "_law_deed") (.int 1)) (.cons (.idx (.var "_law_deed") (.int 2)) .nil))) .nil)))
 .nil) .nil)
 (.cons (.ret (.blt .sorted (.cons (.var "_law_found") .nil)))
 .nil)))
noncomputable def iK:Ss:=
 (.cons (.asg "_law_cell" (.bin .FloorDiv (.call "_law_cell_at" (.cons (.var "_law_script") (.cons (.int 1) .nil))) (.int 32)))
 (.cons (.asg "_law_many" (.idx (.list (.cons (.int 70) (.cons (.int 70) (.cons (.int 70) (.cons (.int 256) .nil))))) (.bin .Mod (.bin .FloorDiv (.var "_law_cell") (.int 8)) (.int 4))))
 (.cons (.ite (.cmp .Eq (.bin .Mod (.var "_law_cell") (.int 8)) (.int 1)) (.cons (.ret (.compX (.tup (.cons (.str [112,117,116]) (.cons (.bin .Mod (.bin .Add (.bin .FloorDiv (.var "_law_cell") (.int 32)) (.var "_law_k")) (.int 256)) (.cons (.call "_law_value" (.cons (.var "_law_cell") (.cons (.var "_law_k") .nil))) .nil)))) "_law_k" (.blt .range (.cons (.var "_law_many") .nil))))
 .nil) .nil)
 (.cons (.ret (.list .nil))
 .nil))))
noncomputable def iL:Ss:=
 (.cons (.asg "_law_deeds_here" (.call "_law_first" (.cons (.var "_law_script") .nil)))
 (.cons (.asg "_law_plain" (.blt .sorted (.cons (.compX (.tup (.cons (.idx (.var "_law_deed") (.int 1)) (.cons (.idx (.var "_law_deed") (.int 2)) .nil))) "_law_deed" (.var "_law_deeds_here")) .nil)))
 (.cons (.for_ "_law_k" (.blt .range (.cons (.int 2) (.cons (.blt .min (.cons (.blt .len (.cons (.var "_law_script") .nil)) (.cons (.bin .Sub (.call "_law_room" (.cons (.var "_law_script") .nil)) (.bin .FloorDiv (.blt .len (.cons (.var "_law_deeds_here") .nil)) (.int 12))) .nil))) .nil))) (.cons (.for_ "_law_deed" (.call "_law_deeds_by" (.cons (.var "_law_script") (.cons (.var "_law_k") (.cons (.compX (.idx (.var "_law_one") (.int 0)) "_law_one" (.var "_law_plain")) .nil)))) (.cons (.ex (.mth .append (.var "_law_deeds_here") (.cons (.var "_law_deed") .nil)))
 (.cons (.asg "_law_plain" (.call "_law_behind" (.cons (.var "_law_plain") (.cons (.var "_law_deed") .nil))))
 .nil)))
 .nil))
 (.cons (.ret (.var "_law_deeds_here"))
 .nil))))
section
variable {C:Cx} {k:Nat} {H:List HO} {ns:List Int}
noncomputable def ig (ns:List Int) (more:Int):Int:=if ns.getD 1 0 % 2=1 then (ns.getD 1 0 / 2 % 16*16+more % 16 - 37)*3 % 256 else more % 256
theorem ka (ns:List Int) (more:Int):0≤ig ns more∧ig ns more≤255:=by
 unfold ig
 split
 ·exact ⟨Int.emod_nonneg _ (by decide),Int.le_of_lt_add_one (Int.emod_lt_of_pos _ (by decide))⟩
 ·exact ⟨Int.emod_nonneg _ (by decide),Int.le_of_lt_add_one (Int.emod_lt_of_pos _ (by decide))⟩
theorem zO (F:bc C "_law_name" ["_law_script", "_law_more"] jA) (more:Int) (Gc:Calls C k "_law_cell_at" [.lst (ns.map .int),.int (1:Nat)] H (.ok (.int (ns.getD 1 0))) H):Calls C (k+1) "_law_name" [.lst (ns.map .int),.int more] H (.ok (.int (ig ns more))) H:=by
 refine ao F rfl (aD (ah (cz (aa rfl) ac) Gc) ?_)
 unfold ig
 by_cases h:ns.getD 1 0 % 2=1
 ·rw [if_pos h]
  exact dx (ag (af (aa rfl) ac (.mod (by decide))) ac aW (decide_eq_true h)) (aQ (af (af (af (af (af (af (af (aa rfl) ac (.div (by decide) (by decide))) ac (.mod (by decide))) ac (.mul (.inr (by decide)))) (af (aa rfl) ac (.mod (by decide))) (.add _ _)) ac (.sub _ _)) ac (.mul (.inr (by decide)))) ac (.mod (by decide))) (bS (au rfl trivial)))
 ·rw [if_neg h]
  exact aG (ag (af (aa rfl) ac (.mod (by decide))) ac aW (decide_eq_false h)) (aQ (af (aa rfl) ac (.mod (by decide))) (au rfl trivial))
noncomputable def cA (c k:Int):Int:=if c % 7=2 then (c*48271+k) % 10 ^ 60 else if c % 7=3 then 0 - (10 ^ 60 - 1 - c / 7 % 10 ^ 20) / (1+c / 7 % 3) else (c / 7+13*k) % 2003 - 1001
theorem gR (c k:Int):(cA c k).natAbs < 10 ^ 60:=by
 have pos:(0:Int) < 10 ^ 60:=by decide
 unfold cA
 split
 ·have h0:=Int.emod_nonneg (c*48271+k) (Int.ne_of_gt pos)
  have h1:=Int.emod_lt_of_pos (c*48271+k) pos
  lia
 ·split
  ·have q0:=Int.emod_nonneg (c / 7) (show (10 ^ 20:Int)≠0 by decide)
   have q1:=Int.emod_lt_of_pos (c / 7) (show (0:Int) < 10 ^ 20 by decide)
   have q2:=Int.emod_nonneg (c / 7) (show (3:Int)≠0 by decide)
   have a1:0≤10 ^ 60 - 1 - c / 7 % 10 ^ 20:=by lia
   have a2:(10 ^ 60 - 1 - c / 7 % 10 ^ 20) / (1+c / 7 % 3)≤10 ^ 60 - 1 - c / 7 % 10 ^ 20:=Int.ediv_le_self _ a1
   have a3:0≤(10 ^ 60 - 1 - c / 7 % 10 ^ 20) / (1+c / 7 % 3):=Int.ediv_nonneg a1 (by lia)
   generalize (10 ^ 60 - 1 - c / 7 % 10 ^ 20) / (1+c / 7 % 3)=z at a2 a3
   lia
  ·have h0:=Int.emod_nonneg (c / 7+13*k) (show (2003:Int)≠0 by decide)
   have h1:=Int.emod_lt_of_pos (c / 7+13*k) (show (0:Int) < 2003 by decide)
   lia
theorem DK (F:bc C "_law_value" ["_law_cell", "_law_k"] iI) (c j:Int):Calls C (k+1) "_law_value" [.int c,.int j] H (.ok (.int (cA c j))) H:=by
 refine ao F rfl ?_
 unfold cA
 have m7: ∀ n:Int,Ev (Calls C k) C.glo (.cmp .Eq (.bin .Mod (.var "_law_cell") (.int 7)) (.int n)) ⟨eD ["_law_cell", "_law_k"] [.int c,.int j],H⟩ (.bool (decide (c % 7=n))) ⟨eD ["_law_cell", "_law_k"] [.int c,.int j],H⟩:=fun n=>
  ag (af (aa rfl) ac (.mod (by decide))) ac aW rfl
 by_cases h:c % 7=2
 ·rw [if_pos h]
  exact dx (bw (m7 2) (congrArg V.bool (decide_eq_true h))) (aQ (af (af (af (aa rfl) ac (.mul (.inr (by decide)))) (aa rfl) (.add _ _)) (af ac ac (.pow (by decide) (by decide) (by decide))) (.mod (by decide))) (bS (au rfl trivial)))
 ·rw [if_neg h]
  refine aG (bw (m7 2) (congrArg V.bool (decide_eq_false h))) ?_
  by_cases h3:c % 7=3
  ·rw [if_pos h3]
   have q2:=Int.emod_nonneg (c / 7) (show (3:Int)≠0 by decide)
   have q3:=Int.emod_lt_of_pos (c / 7) (show (0:Int) < 3 by decide)
   exact dx (bw (m7 3) (congrArg V.bool (decide_eq_true h3))) (aQ (af ac (af (af (af (af ac ac (.pow (by decide) (by decide) (by decide))) ac (.sub _ _)) (af (af (aa rfl) ac (.div (by decide) (by decide))) (af ac ac (.pow (by decide) (by decide) (by decide))) (.mod (by decide))) (.sub _ _))
    (af ac (af (af (aa rfl) ac (.div (by decide) (by decide))) ac (.mod (by decide))) (.add _ _)) (.div (by lia) (by lia))) (.sub _ _)) (bS (au rfl trivial)))
  ·rw [if_neg h3]
   exact aG (bw (m7 3) (congrArg V.bool (decide_eq_false h3))) (aQ (af (af (af (af (aa rfl) ac (.div (by decide) (by decide))) (af ac (aa rfl) (.mul (.inl (by decide)))) (.add _ _)) ac (.mod (by decide))) ac (.sub _ _)) (au rfl trivial))
noncomputable def fR (c:Int):Nat:=if c % 4=1 then (1+c / 4 % 64).toNat else (1+c / 4 % 3).toNat
theorem rE (c:Int):1≤fR c∧fR c≤64:=by
 unfold fR
 split
 ·have h0:=Int.emod_nonneg (c / 4) (show (64:Int)≠0 by decide)
  have h1:=Int.emod_lt_of_pos (c / 4) (show (0:Int) < 64 by decide)
  omega
 ·have h0:=Int.emod_nonneg (c / 4) (show (3:Int)≠0 by decide)
  have h1:=Int.emod_lt_of_pos (c / 4) (show (0:Int) < 3 by decide)
  omega
theorem DN (F:bc C "_law_bound" ["_law_cell"] iM) (c:Int):Calls C (k+1) "_law_bound" [.int c] H (.ok (.int (fR c))) H:=by
 refine ao F rfl ?_
 by_cases h:c % 4=1
 ·refine dx (ag (af (aa rfl) ac (.mod (by decide))) ac aW (decide_eq_true h)) (aQ (bw (af ac (af (af (aa rfl) ac (.div (by decide) (by decide))) ac (.mod (by decide))) (.add _ _)) (congrArg V.int ?_)) (bS (au rfl trivial)))
  have h0:=Int.emod_nonneg (c / 4) (show (64:Int)≠0 by decide)
  rw [fR,if_pos h,Int.toNat_of_nonneg (by lia)]
 ·refine aG (ag (af (aa rfl) ac (.mod (by decide))) ac aW (decide_eq_false h)) (aQ (bw (af ac (af (af (aa rfl) ac (.div (by decide) (by decide))) ac (.mod (by decide))) (.add _ _)) (congrArg V.int ?_)) (au rfl trivial))
  have h0:=Int.emod_nonneg (c / 4) (show (3:Int)≠0 by decide)
  rw [fR,if_neg h,Int.toNat_of_nonneg (by lia)]
theorem zL (F:bc C "_law_room" ["_law_script"] jz) (h:ns.length≤63):Calls C (k+1) "_law_room" [.lst (ns.map .int)] H (.ok (.int 32)) H:=
 ao F rfl (aG (ag (ay (aJ (aa rfl)) (.len (.seq (.lst _)))) ac (.gt _ _) (decide_eq_false (by rw [List.length_map]; lia))) (aQ ac (au rfl trivial)))
abbrev cH:=Bool×Int×Int
noncomputable def sS (p:Bool):List Nat:=if p then [112,117,116] else [116,97,107,101]
noncomputable def dV (d:cH):V:=.tup [.str (sS d.1),.int d.2.1,.int d.2.2]
theorem fz (n:Nat): ∀ ds:List cH,lows n (ds.map dV)
 | []=>trivial
 | _::r=>⟨⟨trivial,trivial,trivial,trivial⟩,fz n r⟩
theorem nX {d:cH}:Idx H (dV d) (.int 0) (.str (sS d.1)):=.tup (by decide) rfl
theorem iy {d:cH}:Idx H (dV d) (.int 1) (.int d.2.1):=.tup (by decide) rfl
theorem mJ {d:cH}:Idx H (dV d) (.int 2) (.int d.2.2):=.tup (by decide) rfl
theorem gB (d:cH):eqB (.str (sS d.1)) (.str [112,117,116])=d.1:=by
 rw [dZ]
 cases d.1<;>decide
noncomputable def DOk (d:cH):Prop:=(0≤d.2.1∧d.2.1≤255)∧d.2.2.natAbs < 10 ^ 60
noncomputable def bhT (ts:Ts) (d:cH):Ts:=if d.1 then ce ts d.2.1 d.2.2 else woT ts d.2.1
theorem xB {ts:Ts} (h:Up ts) (n:Int):Up (woT ts n):=h.filter _
theorem wo_perm {ts:Ts} {n v:Int}:(ce ts n v).Perm (woT ts n++[(n,v)]):=by
 have h:=jf (ts:=woT ts n) (n:=n) (v:=v) fun t ht=>by
  have:=(List.mem_filter.mp ht).2
  simpa using this
 have e:ce (woT ts n) n v=ce ts n v:=by
  rw [ce,ce,woT,List.filter_filter,List.filter_filter]
  congr 1
  ·congr 1
   refine List.filter_congr fun t _=>?_
   by_cases q:t.1 < n
   ·rw [decide_eq_true q,decide_eq_false (by lia)]; rfl
   ·rw [decide_eq_false q]; rfl
  ·refine List.filter_congr fun t _=>?_
   by_cases q:n < t.1
   ·rw [decide_eq_true q,decide_eq_false (by lia)]; rfl
   ·rw [decide_eq_false q]; rfl
 rwa [e] at h
theorem eH {ts:Ts} (h:Up ts):(ts.map pr).Pairwise fun a b=>leV a b=true:=by
 rw [List.pairwise_map]; exact h.imp fun q=>zv q
theorem duos (ts:Ts): ∀ v∈ts.map pr,∃ i j,v=.tup [.int i,.int j]:=fun v hv=>by
 obtain ⟨t,_,rfl⟩:=List.mem_map.mp hv
 exact ⟨t.1,t.2,rfl⟩
theorem wC {ts:Ts} {d:cH} (h:Ok ts) (hv:tZ ts) (hd:DOk d):Ok (bhT ts d)∧tZ (bhT ts d):=by
 have sub: ∀ t∈woT ts d.2.1,t∈ts:=fun t ht=>(List.mem_filter.mp ht).1
 unfold bhT
 cases d.1 with
 | true=>
  have pm:=wo_perm (ts:=ts) (n:=d.2.1) (v:=d.2.2)
  have mem: ∀ t∈ce ts d.2.1 d.2.2,t∈ts∨t=(d.2.1,d.2.2):=fun t ht=>(List.mem_append.mp (pm.subset ht)).imp (sub t) List.mem_singleton.mp
  exact ⟨⟨jG h.up _ _,fun t ht=>(mem t ht).elim (h.low t) fun e=>by rw [e]; exact hd.1⟩,fun t ht=>(mem t ht).elim (hv t) fun e=>by rw [e]; exact hd.2⟩
 | false=>exact ⟨⟨xB h.up _,fun t ht=>h.low t (sub t ht)⟩,fun t ht=>hv t (sub t ht)⟩
theorem ny {ts:Ts} (h:Ok ts):ts.length≤256:=by
 have key: ∀ (ts:Ts) (lo:Int),lo≤256→Up ts→(∀ t∈ts,lo≤t.1∧t.1≤255)→ts.length≤(256 - lo).toNat:=by
  intro ts
  induction ts with
  | nil=>exact fun _ _ _ _=>Nat.zero_le _
  | cons t ts ih=>
   intro lo hl hu hb
   have ht:=hb t List.mem_cons_self
   have:=ih (t.1+1) (by omega) (List.pairwise_cons.mp hu).2 fun u hu'=>⟨(List.pairwise_cons.mp hu).1 u hu',(hb u (List.mem_cons_of_mem _ hu')).2⟩
   rw [List.length_cons]; omega
 exact key ts 0 (by decide) h.up h.low
theorem nY (F:bc C "_law_behind" ["_law_plain", "_law_deed"] fT) {ts:Ts} (h:Ok ts) (d:cH):Calls C (k+1) "_law_behind" [.lst (ts.map pr),dV d] H (.ok (.lst ((bhT ts d).map pr))) H:=by
 have hl:=ny h
 have wl:(woT ts d.2.1).length≤ts.length:=List.length_filter_le _ _
 refine ao F rfl (aD (bG (g:=pr) (q:=pr) (p:=fun t=>!decide (t.1=d.2.1)) (rs:=ts) (aa rfl) (.lst _) (fun t _=>ag (ai (aa rfl) ac bC) (ai (aa rfl) ac iy) bz rfl) (fun _ _ _=>aa rfl) .loc) ?_)
 cases hp:d.1 with
 | true=>
  have e:bhT ts d=ce ts d.2.1 d.2.2:=by rw [bhT,hp]; rfl
  have pm:((bhT ts d).map pr).Perm ((woT ts d.2.1).map pr++[pr (d.2.1,d.2.2)]):=by rw [e,show (woT ts d.2.1).map pr++[pr (d.2.1,d.2.2)]=(woT ts d.2.1++[(d.2.1,d.2.2)]).map pr by rw [List.map_append]; rfl]; exact wo_perm.map _
  refine dx (ag (ai (aa rfl) ac nX) aI (.eq (.self _) (.self _) rfl rfl) ((gB d).trans hp)) (iZ (cc (aa rfl) cj (aJ (cg (cz (ai (aa rfl) ac iy) (ai (aa rfl) ac mJ)))) cj ?_) (br (aX ?_)))
  ·rw [List.length_map]; exact Nat.lt_of_le_of_lt (Nat.le_trans wl hl) (by decide)
  ·refine aQ (cu (aJ (aa rfl)) (.sorted (xs:=(woT ts d.2.1).map pr++[pr (d.2.1,d.2.2)]) (.loc ?_) (.duos ?_) ?_ pm (eH ?_)) .lst) ⟨rfl,bV _ _,?_⟩
   ·show ((H++[_]).set H.length _)[H.length]?= _
    rw [fo]; exact cj
   ·intro v hv
    exact duos (bhT ts d) v (pm.symm.subset hv)
   ·rw [← pm.length_eq,List.length_map,e]; exact Nat.le_trans (kH _ _ _) (by exact lin [_] [(1,.v 0,.n 256)] 1 (.a (.v 0) (.n 1)) (.n 1000000) rfl hl)
   ·rw [e]; exact jG h.up _ _
   ·show ((H++[_]).set H.length _).take H.length=H
    rw [fo,List.take_left]
 | false=>
  have e:bhT ts d=woT ts d.2.1:=by rw [bhT,hp]; rfl
  refine aG (ag (ai (aa rfl) ac nX) aI (.eq (.self _) (.self _) rfl rfl) ((gB d).trans hp)) ?_
  rw [e]
  refine aQ (cu (aJ (aa rfl)) (.sorted (.loc cj) (.duos (duos _)) ?_ (.refl _) (eH (xB h.up _))) .lst) ⟨rfl,bV _ _,?_⟩
  ·show ((woT ts d.2.1).map pr).length≤_
   rw [List.length_map]; exact lin [_,_] [(1,.v 1,.n 256),(1,.v 0,.v 1)] 1 (.v 0) (.n 1000000) rfl hl wl
  ·show (H++[_]).take H.length=H
   rw [List.take_left]
end
end
noncomputable section
open PySem
section
variable {C:Cx} {k:Nat} {H:List HO} {ns:List Int}
noncomputable def kT (c:Int):Nat:=if c / 8 % 4=3 then 256 else 70
noncomputable def bF (ns:List Int):List cH:=if ns.getD 1 0 / 32 % 8=1 then (List.range (kT (ns.getD 1 0 / 32))).map fun j:Nat=>((true,(ns.getD 1 0 / 32 / 32+(j:Int)) % 256,cA (ns.getD 1 0 / 32) j):cH) else []
theorem mn (c:Int):kT c≤256:=by unfold kT; split<;>decide
theorem lh (ns:List Int):(bF ns).length≤256:=by
 unfold bF
 split
 ·rw [List.length_map,List.length_range]; exact mn _
 ·exact Nat.zero_le _
theorem kh (ns:List Int): ∀ d∈bF ns,DOk d:=by
 unfold bF
 split
 ·intro d hd
  obtain ⟨j,_,rfl⟩:=List.mem_map.mp hd
  exact ⟨⟨Int.emod_nonneg _ (by decide),Int.le_of_lt_add_one (Int.emod_lt_of_pos _ (by decide))⟩,gR _ _⟩
 ·exact fun d hd=>by cases hd
theorem nU (ns:List Int):(bF ns).Pairwise fun a b=>a.2.1≠b.2.1:=by
 unfold bF
 split
 ·rw [List.pairwise_map]
  refine List.Pairwise.imp_of_mem ?_ (List.pairwise_lt_range (n:=kT (ns.getD 1 0 / 32)))
  intro a b ha hb hab e
  have:=mn (ns.getD 1 0 / 32)
  have:=List.mem_range.mp ha
  have:=List.mem_range.mp hb
  simp only at e
  lia
 ·exact List.Pairwise.nil
theorem sO (c:Int):([V.int 70,.int 70,.int 70,.int 256]:List V)[(c / 8 % 4).toNat]?= some (.int (kT c)):=by
 have h0:=Int.emod_nonneg (c / 8) (show (4:Int)≠0 by decide)
 have h1:=Int.emod_lt_of_pos (c / 8) (show (0:Int) < 4 by decide)
 unfold kT
 have cs:c / 8 % 4=0∨c / 8 % 4=1∨c / 8 % 4=2∨c / 8 % 4=3:=by lia
 rcases cs with e | e | e | e<;>rw [e]<;>rfl
theorem wv (F:bc C "_law_first" ["_law_script"] iK) (Gc:Calls C k "_law_cell_at" [.lst (ns.map .int),.int (1:Nat)] H (.ok (.int (ns.getD 1 0))) H) (Gv: ∀ c j:Int,Calls C k "_law_value" [.int c,.int j] H (.ok (.int (cA c j))) H):
  Calls C (k+1) "_law_first" [.lst (ns.map .int)] H (.ok (.loc H.length)) (H++[.list ((bF ns).map dV)]):=by
 refine ee F rfl (aD (af (ah (cz (aa rfl) ac) Gc) ac (.div (by decide) (by decide))) (aD (ai (aM (aE ac (kj ac ac ac)) .lst) (af (af (aa rfl) ac (.div (by decide) (by decide))) ac (.mod (by decide))) (.seq (.lst _) (Int.emod_nonneg _ (by decide)) (sO _))) ?_))
 by_cases h:ns.getD 1 0 / 32 % 8=1
 ·have e:bF ns=(List.range (kT (ns.getD 1 0 / 32))).map fun j:Nat=>((true,(ns.getD 1 0 / 32 / 32+(j:Int)) % 256,cA (ns.getD 1 0 / 32) j):cH):=if_pos h
  refine dx (ag (af (aa rfl) ac (.mod (by decide))) ac aW (decide_eq_true h)) (aQ (dg (g:=fun j:Nat=>V.int j) (q:=fun j:Nat=>dV (true,(ns.getD 1 0 / 32 / 32+(j:Int)) % 256,cA (ns.getD 1 0 / 32) j)) (rs:=List.range (kT (ns.getD 1 0 / 32))) (ay (aJ (aa rfl)) (.range1 _)) (bI (Nat.le_trans (mn _) (by decide)))
   (fun j _=>cg (kj aI (af (af (af (aa rfl) ac (.div (by decide) (by decide))) (aa rfl) (.add _ _)) ac (.mod (by decide))) (ah (cz (aa rfl) (aa rfl)) (Gv _ _)))) .loc) (bS ⟨rfl,?_⟩))
  rw [e,List.map_map]; rfl
 ·have e:bF ns=[]:=if_neg h
  rw [e]
  exact aG (ag (af (aa rfl) ac (.mod (by decide))) ac aW (decide_eq_false h)) (aQ (aM aL .loc) ⟨rfl,rfl⟩)
noncomputable def byT (ns:List Int) (j:Nat) (known:List Int):List cH:=
 if ns.getD j 0 % 16 < 9 then [(true,ig ns (ns.getD j 0 / 16),cA (ns.getD j 0) j)]
 else if ns.getD j 0 % 16 < 13∧known≠[]∧0 < ns.getD j 0 % 3 then [(false,known.getD (ns.getD j 0 / 16 % (known.length:Nat)).toNat 0,0)]
 else if ns.getD j 0 % 16 < 13 then [(false,ig ns (ns.getD j 0 / 16),0)]
 else (List.range (ns.getD j 0 / 16 % 7).toNat).map fun i:Nat=>(decide (ns.getD j 0 % 16 < 15),ig ns (ns.getD j 0 / 16 / 7+(i:Int)),cA (ns.getD j 0+i) j)
theorem tS (ns:List Int) (j:Nat) (known:List Int):(byT ns j known).length≤7:=by
 unfold byT
 split
 ·exact (by decide:1≤7)
 ·split
  ·exact (by decide:1≤7)
  ·split
   ·exact (by decide:1≤7)
   ·rw [List.length_map,List.length_range]
    have h1:=Int.emod_lt_of_pos (ns.getD j 0 / 16) (show (0:Int) < 7 by decide)
    lia
theorem tV {known:List Int} (h:known≠[]) (m:Int):(m % (known.length:Nat)).toNat < known.length:=by
 have h0:(0:Int) < (known.length:Nat):=Int.ofNat_lt.mpr (List.length_pos_iff.mpr h)
 have h1:=Int.emod_lt_of_pos m h0
 have h2:=Int.emod_nonneg m (Int.ne_of_gt h0)
 lia
theorem zV (ns:List Int) (j:Nat) {known:List Int} (hk: ∀ n∈known,0≤n∧n≤255): ∀ d∈byT ns j known,DOk d:=by
 have z:((0:Int)).natAbs < 10 ^ 60:=by decide
 unfold byT
 split
 ·intro d hd; rw [List.mem_singleton.mp hd]; exact ⟨ka _ _,gR _ _⟩
 ·split
  ·rename_i h
   intro d hd; rw [List.mem_singleton.mp hd]
   have lt:=tV h.2.1 (ns.getD j 0 / 16)
   refine ⟨hk _ ?_,z⟩
   show known.getD _ 0∈known
   rw [List.getD_eq_getElem?_getD,List.getElem?_eq_getElem lt]; exact List.getElem_mem lt
  ·split
   ·intro d hd; rw [List.mem_singleton.mp hd]; exact ⟨ka _ _,z⟩
   ·intro d hd
    obtain ⟨i,_,rfl⟩:=List.mem_map.mp hd
    exact ⟨ka _ _,gR _ _⟩
theorem sR {c:Int} (h: ¬ c % 16 < 13):([V.str [112,117,116],.str [112,117,116],.str [116,97,107,101]]:List V)[(c % 16 - 13).toNat]?= some (.str (sS (decide (c % 16 < 15)))):=by
 have h1:=Int.emod_lt_of_pos c (show (0:Int) < 16 by decide)
 have cs:c % 16=13∨c % 16=14∨c % 16=15:=by lia
 rcases cs with e | e | e<;>rw [e]<;>rfl
theorem zt {xs:List V} (h:xs≠[]):eqB (.lst xs) (.lst [])=false:=by
 cases xs with
 | nil=>exact absurd rfl h
 | cons x xs=>rfl
theorem GS (F:bc C "_law_deeds_by" ["_law_script", "_law_k", "_law_known"] eo) {j:Nat} (hj:j < ns.length) (known:List Int) (Gn: ∀ (H:List HO) (m:Int),Calls C k "_law_name" [.lst (ns.map .int),.int m] H (.ok (.int (ig ns m))) H) (Gv: ∀ (H:List HO) (c j:Int),Calls C k "_law_value" [.int c,.int j] H (.ok (.int (cA c j))) H) (hp: ∀ n,n∈known→pl 1 (.int n)=true):
  Calls C (k+1) "_law_deeds_by" [.lst (ns.map .int),.int j,.lst (known.map .int)] H (.ok (.lst ((byT ns j known).map dV))) H:=by
 have gj: ∀ H,Idx H (.lst (ns.map .int)) (.int j) (.int (ns.getD j 0)):=fun H=>.seq (.lst _) (Int.natCast_nonneg j) (by rw [Int.toNat_natCast,List.getElem?_map,List.getD_eq_getElem?_getD,List.getElem?_eq_getElem hj]; rfl)
 have plk:pl 6 (.lst (known.map .int))=true:=by
  show (false || List.all (known.map V.int) (pl 5))=true
  rw [Bool.false_or,List.all_map,List.all_eq_true]; exact fun _ _=>rfl
 refine ao F rfl (aD (ai (aa rfl) (aa rfl) (gj _)) (aD (af (aa rfl) ac (.div (by decide) (by decide))) ?_))
 unfold byT
 by_cases h9:ns.getD j 0 % 16 < 9
 ·rw [if_pos h9]
  exact dx (ag (af (aa rfl) ac (.mod (by decide))) ac (.lt _ _) (decide_eq_true h9)) (aQ (aM (aJ (cg (kj aI (ah (cz (aa rfl) (aa rfl)) (Gn _ _)) (ah (cz (aa rfl) (aa rfl)) (Gv _ _ _))))) .lst) (bS (au rfl (by exact ⟨⟨trivial,trivial,trivial,trivial⟩,trivial⟩))))
 rw [if_neg h9]
 refine aG (ag (af (aa rfl) ac (.mod (by decide))) ac (.lt _ _) (decide_eq_false h9)) ?_
 by_cases h13:ns.getD j 0 % 16 < 13
 ·have t1:=decide_eq_true h13
  by_cases hk:known=[]
  ·subst hk
   rw [if_neg (fun z=>z.2.1 rfl),if_pos h13]
   refine aG (cv (dt (ag (af (aa rfl) ac (.mod (by decide))) ac (.lt _ _) t1) (iP (ag (aa rfl) (aM aL .lst) (.ne (.self _) (.self _) rfl rfl) rfl)))) ?_
   exact dx (ag (af (aa rfl) ac (.mod (by decide))) ac (.lt _ _) t1) (aQ (aM (aJ (cg (kj aI (ah (cz (aa rfl) (aa rfl)) (Gn _ _)) ac))) .lst) (bS (au rfl (by exact ⟨⟨trivial,trivial,trivial,trivial⟩,trivial⟩))))
  ·have ne:(!eqB (.lst (known.map .int)) (.lst []))=true:=by rw [zt (fun e=>hk (List.map_eq_nil_iff.mp e))]; rfl
   by_cases h3:0 < ns.getD j 0 % 3
   ·rw [if_pos ⟨h13,hk,h3⟩]
    have lt:=tV hk (ns.getD j 0 / 16)
    have p0:(0:Int) < ((known.map V.int).length:Nat):=by rw [List.length_map]; exact Int.ofNat_lt.mpr (List.length_pos_iff.mpr hk)
    refine dx (cv (dt (ag (af (aa rfl) ac (.mod (by decide))) ac (.lt _ _) t1) (dt (ag (aa rfl) (aM aL .lst) (.ne (.self _) (.self _) plk rfl) ne) (dt (ag (af (aa rfl) ac (.mod (by decide))) ac (.gt _ _) (decide_eq_true h3)) kA)))) ?_
    refine aQ (aM (aJ (cg (kj aI (ai (aa rfl) (af (aa rfl) (ay (aJ (aa rfl)) (.len (.seq (.lst _)))) (.mod p0)) (.seq (v:=.int (known.getD (ns.getD j 0 / 16 % (known.length:Nat)).toNat 0)) (.lst _) (Int.emod_nonneg _ (Int.ne_of_gt p0)) ?_)) ac))) .lst) (bS (au rfl (by exact ⟨⟨trivial,trivial,trivial,trivial⟩,trivial⟩)))
    rw [List.length_map]
    generalize (ns.getD j 0 / 16 % (known.length:Nat)).toNat=m at lt ⊢
    rw [List.getElem?_map,List.getD_eq_getElem?_getD,List.getElem?_eq_getElem lt]; rfl
   ·rw [if_neg (fun z=>h3 z.2.2),if_pos h13]
    refine aG (cv (dt (ag (af (aa rfl) ac (.mod (by decide))) ac (.lt _ _) t1) (dt (ag (aa rfl) (aM aL .lst) (.ne (.self _) (.self _) plk rfl) ne) (iP (ag (af (aa rfl) ac (.mod (by decide))) ac (.gt _ _) (decide_eq_false h3)))))) ?_
    exact dx (ag (af (aa rfl) ac (.mod (by decide))) ac (.lt _ _) t1) (aQ (aM (aJ (cg (kj aI (ah (cz (aa rfl) (aa rfl)) (Gn _ _)) ac))) .lst) (bS (au rfl (by exact ⟨⟨trivial,trivial,trivial,trivial⟩,trivial⟩))))
 ·have t1:=decide_eq_false h13
  have lo:lows H.length (((List.range (ns.getD j 0 / 16 % 7).toNat).map fun i:Nat=>((decide (ns.getD j 0 % 16 < 15),ig ns (ns.getD j 0 / 16 / 7+(i:Int)),cA (ns.getD j 0+i) j):cH)).map dV):=fz _ _
  rw [if_neg (fun z=>h13 z.1),if_neg h13]
  rw [List.map_map] at lo ⊢
  refine aG (cv (iP (ag (af (aa rfl) ac (.mod (by decide))) ac (.lt _ _) t1))) (aG (ag (af (aa rfl) ac (.mod (by decide))) ac (.lt _ _) t1) ?_)
  refine aD (ai (aM (kj aI aI aI) .lst) (af (af (aa rfl) ac (.mod (by decide))) ac (.sub _ _)) (.seq (.lst _) (by lia) (sR h13))) ?_
  have m0:=Int.emod_nonneg (ns.getD j 0 / 16) (show (7:Int)≠0 by decide)
  have m1:=Int.emod_lt_of_pos (ns.getD j 0 / 16) (show (0:Int) < 7 by decide)
  refine aQ (dg (g:=fun i:Nat=>V.int i) (q:=fun i:Nat=>dV (decide (ns.getD j 0 % 16 < 15),ig ns (ns.getD j 0 / 16 / 7+(i:Int)),cA (ns.getD j 0+i) j)) (rs:=List.range (ns.getD j 0 / 16 % 7).toNat)
   (bw (ay (aJ (af (aa rfl) ac (.mod (by decide)))) (.range1 _)) (v':=.rng 0 ((ns.getD j 0 / 16 % 7).toNat:Nat) 1) (by rw [Int.toNat_of_nonneg m0])) (bI (by lia))
   (fun i _=>cg (kj (aa rfl) (ah (cz (aa rfl) (af (af (aa rfl) ac (.div (by decide) (by decide))) (aa rfl) (.add _ _))) (Gn _ _)) (ah (cz (af (aa rfl) (aa rfl) (.add _ _)) (aa rfl)) (Gv _ _ _)))) .lst) ⟨rfl,lo,List.take_length⟩
end
end
noncomputable section
open PySem
section
variable {C:Cx} {k:Nat} {H:List HO} {ns:List Int}
noncomputable def dP (d:cH):Int×Int:=(d.2.1,d.2.2)
noncomputable def lO (ds:List cH):Ts:=(ds.map dP).mergeSort fun a b=>decide (a.1≤b.1)
theorem gY (ds:List cH):(lO ds).Perm (ds.map dP):=List.mergeSort_perm _ _
theorem pY {ds:List cH} (h:ds.Pairwise fun a b=>a.2.1≠b.2.1):Up (lO ds):=by
 have h1:(lO ds).Pairwise fun a b=>decide (a.1≤b.1)=true:=List.pairwise_mergeSort (le:=fun a b:Int×Int=>decide (a.1≤b.1)) (fun a b c p q=>decide_eq_true (Int.le_trans (of_decide_eq_true p) (of_decide_eq_true q))) (fun a b=>by
  rcases Int.le_total a.1 b.1 with q | q
  ·rw [decide_eq_true q]; rfl
  ·rw [decide_eq_true q,Bool.or_true]) _
 have h2:(lO ds).Pairwise fun a b=>a.1≠b.1:=(gY ds).symm.pairwise (by rw [List.pairwise_map]; exact h) (fun q e=>q e.symm)
 exact (h1.and h2).imp fun q=>Int.lt_iff_le_and_ne.mpr ⟨of_decide_eq_true q.1,q.2⟩
noncomputable def iX (p:List cH×Ts) (d:cH):List cH×Ts:=(p.1++[d],bhT p.2 d)
noncomputable def ui (ns:List Int) (p:List cH×Ts) (j:Nat):List cH×Ts:=(byT ns j (p.2.map (·.1))).foldl iX p
noncomputable def jb (ns:List Int) (i:Nat):List cH×Ts:=(List.range i).foldl (fun p j=>ui ns p (j+2)) (bF ns,lO (bF ns))
theorem jv (ns:List Int) (i:Nat):jb ns (i+1)=ui ns (jb ns i) (i+2):=by rw [jb,List.range_succ,List.foldl_append]; rfl
noncomputable def rg (ns:List Int):Int:=min (ns.length:Nat) (32 - ((bF ns).length:Nat) / 12)
noncomputable def nW (ns:List Int):List cH:=(jb ns (rg ns - 2).toNat).1
structure jc (p:List cH×Ts) (m:Nat):Prop where
 ds: ∀ d∈p.1,DOk d
 ok:Ok p.2
 vals:tZ p.2
 len:p.1.length≤m
theorem jc.step {p:List cH×Ts} {m:Nat} {d:cH} (g:jc p m) (hd:DOk d):jc (iX p d) (m+1):=by
 obtain ⟨h1,h2⟩:=wC g.ok g.vals hd
 exact ⟨fun x hx=>(List.mem_append.mp hx).elim (g.ds x) fun q=>by rw [List.mem_singleton.mp q]; exact hd,h1,h2,by show (p.1++[d]).length≤_; rw [List.length_append]; exact Nat.succ_le_succ g.len⟩
theorem jc.steps {ds:List cH}: ∀ {p:List cH×Ts} {m:Nat},jc p m→(∀ d∈ds,DOk d)→jc (ds.foldl iX p) (m+ds.length):=by
 induction ds with
 | nil=>exact fun g _=>g
 | cons d ds ih=>
  intro p m g h
  have:=ih (g.step (h d List.mem_cons_self)) fun x hx=>h x (List.mem_cons_of_mem _ hx)
  rw [Nat.add_assoc,Nat.add_comm 1] at this
  exact this
theorem nJ {ts:Ts} (h:Ok ts): ∀ n∈ts.map (·.1),0≤n∧n≤255:=fun n hn=>by
 obtain ⟨t,ht,rfl⟩:=List.mem_map.mp hn
 exact h.low t ht
theorem jc.mono {p:List cH×Ts} {m m':Nat} (g:jc p m) (h:m≤m'):jc p m':=⟨g.ds,g.ok,g.vals,Nat.le_trans g.len h⟩
theorem iw (ns:List Int): ∀ i,jc (jb ns i) (256+7*i)
 | 0=>by
  have sub: ∀ t∈lO (bF ns),∃ d∈bF ns,t=dP d:=fun t ht=>by
   obtain ⟨d,h1,h2⟩:=List.mem_map.mp ((gY _).subset ht)
   exact ⟨d,h1,h2.symm⟩
  exact ⟨kh ns,⟨pY (nU ns),fun t ht=>by obtain ⟨d,h1,rfl⟩:=sub t ht; exact (kh ns d h1).1⟩,fun t ht=>by obtain ⟨d,h1,rfl⟩:=sub t ht; exact (kh ns d h1).2,lh ns⟩
 | i+1=>by
  have g:=iw ns i
  rw [jv]
  exact (g.steps (zV ns (i+2) (nJ g.ok))).mono (by have:=tS ns (i+2) ((jb ns i).2.map (·.1)); exact lin [i,_] [(1,.v 1,.n 7)] 1 (.a (.a (.n 256) (.m 7 (.v 0))) (.v 1)) (.a (.n 256) (.m 7 (.a (.v 0) (.n 1)))) rfl this)
theorem sY (ns:List Int): ∀ d∈nW ns,DOk d:=(iw ns _).ds
theorem wy (F:bc C "_law_deeds" ["_law_script"] iL) (hz:ar H) (hn:ns.length≤63)
  (Gf:Calls C k "_law_first" [.lst (ns.map .int)] H (.ok (.loc H.length)) (H++[.list ((bF ns).map dV)])) (Gr: ∀ H,Calls C k "_law_room" [.lst (ns.map .int)] H (.ok (.int 32)) H)
  (Gy: ∀ (H:List HO) (j:Nat) (known:List Int),j < ns.length→Calls C k "_law_deeds_by" [.lst (ns.map .int),.int j,.lst (known.map .int)] H (.ok (.lst ((byT ns j known).map dV))) H)
  (Gb: ∀ (H:List HO) (ts:Ts) (d:cH),Ok ts→Calls C k "_law_behind" [.lst (ts.map pr),dV d] H (.ok (.lst ((bhT ts d).map pr))) H):
  Calls C (k+1) "_law_deeds" [.lst (ns.map .int)] H (.ok (.lst ((nW ns).map dV))) H:=by
 have fl:=lh ns
 have nz: ∀ xs,ar (H++[HO.list xs]):=fun xs=>mm hz fun _=>HO.noConfusion
 refine ao F rfl (aD (iq (aJ (aa rfl)) Gf) (aD (cu (aJ (rc (g:=dV) (q:=fun d=>pr (dP d)) (rs:=bF ns) (aa rfl) cj fun d _=>cg (cz (ai (aa rfl) ac iy) (ai (aa rfl) ac mJ))))
  (.sorted (ys:=(lO (bF ns)).map pr) (.lst _) (.duos ?_) ?_ ?_ (eH (pY (nU ns)))) .lst) ?_))
 ·intro v hv
  obtain ⟨d,_,rfl⟩:=List.mem_map.mp hv
  exact ⟨d.2.1,d.2.2,rfl⟩
 ·rw [List.length_map]; exact lin [_] [(1,.v 0,.n 256)] 1 (.v 0) (.n 1000000) rfl fl
 ·have:=(gY (bF ns)).map pr
  rw [List.map_map] at this; exact this
 have e0:((bF ns).map dV).length=(bF ns).length:=List.length_map ..
 refine cW (items:=(List.range (rg ns - 2).toNat).map fun i:Nat=>V.int ((i+2:Nat):Int)) (fun i st=>st.H=H++[.list ((jb ns i).1.map dV)]∧st.s "_law_deeds_here" =some (.loc H.length)∧st.s "_law_plain" =some (.lst ((jb ns i).2.map pr))∧st.s "_law_script" =some (.lst (ns.map .int)))
  (ay (cz ac (ay (cz (ay (aJ (aa rfl)) (.len (.seq (.lst _)))) (af (ah (aJ (aa rfl)) (Gr _)) (af (ay (aJ (aa rfl)) (.len (.seq (.loc cj)))) ac (.div (by decide) (by decide))) (.sub _ _))) (.min2 _ _ (nz _)))) (.range2 _ _)) ?_ ⟨rfl,rfl,rfl,rfl⟩ ?_ ?_
 ·have e1:min (((ns.map V.int).length:Nat):Int) (32 - (((bF ns).map dV).length:Nat) / 12)=rg ns:=by rw [List.length_map,List.length_map]; rfl
  rw [e1]
  have hb: -1000000≤rg ns∧rg ns≤1000000:=by unfold rg; lia
  have e2:(cB 2 (rg ns) 1).map V.int=(List.range (rg ns - 2).toNat).map fun i:Nat=>V.int ((i+2:Nat):Int):=by
   rw [cB,List.map_map,show (rg ns - 2+1 - 1) / 1=rg ns - 2 by rw [Int.add_sub_cancel,Int.ediv_one]]
   refine List.map_congr_left fun i _=>?_
   show V.int (2+1*(i:Int))=_
   rw [Int.one_mul,Int.add_comm]; rfl
  rw [← e2]
  exact .rng (by decide) (by decide) hb
 ·rintro i w ⟨s,H'⟩ hw ⟨e1,e2,e3,e4⟩ Q' hQ
  have e1:H'=_:=e1
  subst e1
  obtain ⟨hi,rfl⟩:=cr hw
  rw [List.length_range] at hi
  rw [List.getElem_range] at*
  have hj:i+2 < ns.length:=by
   have:rg ns≤(ns.length:Nat):=Int.min_le_left _ _
   lia
  have g:=iw ns i
  have hi61:i≤61:=by exact lin [i,_] [(1,.v 1,.n 63),(1,.a (.a (.v 0) (.n 2)) (.n 1),.v 1)] 1 (.v 0) (.n 61) rfl hn hj
  have sx:=jv ns i
  have bo:=zV ns (i+2) (nJ g.ok)
  have bl:=tS ns (i+2) ((jb ns i).2.map (·.1))
  generalize jb ns i=p at*
  rw [ui] at sx
  generalize hds:byT ns (i+2) (p.2.map (·.1))=ds at*
  refine cW (items:=ds.map dV) (fun m st=>st.H=H++[.list (((ds.take m).foldl iX p).1.map dV)]∧st.s "_law_deeds_here" =some (.loc H.length)∧st.s "_law_plain" =some (.lst (((ds.take m).foldl iX p).2.map pr))∧st.s "_law_script" =some (.lst (ns.map .int)))
   (ah (kj (aa (by exact e4)) (aa rfl) (dg (g:=pr) (q:=fun t=>V.int t.1) (rs:=p.2) (aa (by exact e3)) (.lst _) (fun t _=>ai (aa rfl) ac bC) .lst)) (by
    have:=Gy (H++[.list (p.1.map dV)]) (i+2) (p.2.map (·.1)) hj
    rw [hds,List.map_map] at this
    exact this)) (.lst _) ⟨rfl,e2,e3,e4⟩ ?_ ?_
  ·rintro m w ⟨s,H'⟩ hw ⟨q1,q2,q3,q4⟩ Q' hQ
   have q1:H'=_:=q1
   subst q1
   obtain ⟨hm,rfl⟩:=cr hw
   have gm:=g.steps (ds:=ds.take m) fun d hd=>bo d (List.mem_of_mem_take hd)
   have sx':(ds.take (m+1)).foldl iX p=iX ((ds.take m).foldl iX p) ds[m]:=by rw [List.take_succ_eq_append_getElem hm,List.foldl_append]; rfl
   generalize (ds.take m).foldl iX p=pp at*
   refine iZ (cc (aa (by exact q2)) cj (aJ (aa rfl)) cj ?_) (aD (ah (cz (aa (by exact q3)) (aa rfl)) (Gb _ _ _ gm.ok)) (br (hQ _ (by
    rw [sx']
    refine ⟨?_,q2,rfl,q4⟩
    show (H++[_]).set H.length _=_
    rw [fo,iX,List.map_append]; rfl)).1))
   rw [List.length_map]
   have:=gm.len
   have:(ds.take m).length≤ds.length:=by rw [List.length_take]; exact li [_,_,m] [([3,0],[2]),([1],[3])] [1] [2] rfl hm (Nat.min_le_left _ _)
   exact lin [_,i,_,_] [(7,.v 1,.n 61),(1,.v 2,.n 7),(1,.v 0,.a (.a (.n 256) (.m 7 (.v 1))) (.v 3)),(1,.v 3,.v 2)] 1 (.a (.v 0) (.n 1)) (.n 16000000) rfl hi61 bl (by assumption) this
  ·rintro ⟨s,H'⟩ ⟨q1,q2,q3,q4⟩
   have q1:H'=_:=q1
   subst q1
   rw [List.length_map,List.take_length] at*
   refine br (hQ _ (by rw [sx]; exact ⟨rfl,q2,q3,q4⟩)).1
 ·rintro ⟨s,H'⟩ ⟨e1,e2,e3,e4⟩
  have e1:H'=_:=e1
  subst e1
  rw [List.length_map,List.length_range] at*
  refine aQ (qY (by exact e2) cj) ⟨rfl,fz _ _,?_⟩
  show ((H++[_]).set H.length _).take H.length=H
  rw [fo,List.take_left]
end
end
noncomputable section
open PySem
noncomputable def iC:Ss:=
 (.cons (.asg "found" (.list (.cons (.str []) .nil)))
 (.cons (.for_ "turn" (.blt .range (.cons (.var "depth") .nil)) (.cons (.asg "longer" (.list .nil))
 (.cons (.for_ "text" (.var "found") (.cons (.ex (.mth .append (.var "longer") (.cons (.bin .Add (.var "text") (.str [48])) .nil)))
 (.cons (.ex (.mth .append (.var "longer") (.cons (.bin .Add (.var "text") (.str [49])) .nil)))
 .nil)))
 (.cons (.asg "found" (.var "longer"))
 .nil))))
 (.cons (.ret (.var "found"))
 .nil)))
noncomputable def fV:Ss:=
 (.cons (.ex (.call "need_name" (.cons (.var "name") .nil)))
 (.cons (.asg "depth" (.mcall "Store.depth" "depth" (.var "self") .nil))
 (.cons (.asg "own" (.call "signs" (.cons (.var "name") .nil)))
 (.cons (.asg "place" (.mth .index (.call "places_of" (.cons (.var "depth") .nil)) (.cons (.slc (.var "own") .omit (.var "depth")) .nil)))
 (.cons (.asg "bits" (.idx (.mcall "Store.board" "board" (.var "self") .nil) (.var "place")))
 (.cons (.ret (.tup (.cons (.var "place") (.cons (.var "bits") (.cons (.blt .len (.cons (.compIf (.var "thing") "thing" (.attr (.var "self") "held") (.mth .startswith (.call "signs" (.cons (.idx (.var "thing") (.int 0)) .nil)) (.cons (.var "bits") .nil))) .nil)) .nil)))))
 .nil))))))
noncomputable def fc:Ss:=
 (.cons (.ret (.blt .max (.cons (.compX (.blt .len (.cons (.idx (.var "room") (.int 0)) .nil)) "room" (.mcall "Store.rooms" "rooms" (.var "self") .nil)) .nil)))
 .nil)
noncomputable def fe:Ss:=
 (.cons (.asg "every" (.comp (.idx (.var "room") (.int 0)) "room" (.call "rooms_for" (.cons (.attr (.var "self") "held") (.cons (.attr (.var "self") "bound") .nil)))))
 (.cons (.asg "found" (.list .nil))
 (.cons (.for_ "text" (.call "places_of" (.cons (.mcall "Store.depth" "depth" (.var "self") .nil) .nil)) (.cons (.ex (.mth .append (.var "found") (.cons (.idx (.compIf (.var "bits") "bits" (.var "every") (.mth .startswith (.var "text") (.cons (.var "bits") .nil))) (.int 0)) .nil)))
 .nil))
 (.cons (.ret (.var "found"))
 .nil))))
noncomputable def aU:Nat→List (List Nat)
 | 0=>[[]]
 | n+1=>(aU n).flatMap fun t=>[t++[48],t++[49]]
theorem kg {α β:Type} (f g:α→β): ∀ l:List α,(l.flatMap fun t=>[f t,g t]).length=2*l.length
 | []=>rfl
 | _::l=>by rw [List.flatMap_cons,List.length_append,kg f g l]; show 2+2*l.length=2*(l.length+1); exact l_a (lin [_] [] 1 (.a (.n 2) (.m 2 (.v 0))) (.m 2 (.a (.v 0) (.n 1))) rfl ) (lin [_] [] 1 (.m 2 (.a (.v 0) (.n 1))) (.a (.n 2) (.m 2 (.v 0))) rfl )
theorem dW: ∀ n,(aU n).length=2 ^ n
 | 0=>rfl
 | n+1=>by rw [aU,kg,dW n,Nat.pow_succ,Nat.mul_comm]
theorem cX: ∀ n,∀ t∈aU n,t.length=n∧∀ c∈t,c=48∨c=49
 | 0,t,h=>by rw [List.mem_singleton.mp h]; exact ⟨rfl,fun c h=>nomatch h⟩
 | n+1,t,h=>by
  obtain ⟨u,h1,h2⟩:=List.mem_flatMap.mp h
  obtain ⟨h3,h4⟩:=cX n u h1
  have key: ∀ d,d=48∨d=49→(u++[d]).length=n+1∧∀ c∈u++[d],c=48∨c=49:=fun d hd=>⟨by rw [List.length_append,h3]; rfl,fun c hc=>by
   rcases List.mem_append.mp hc with hc | hc
   ·exact h4 c hc
   ·rw [List.mem_singleton.mp hc]; exact hd⟩
  rcases List.mem_cons.mp h2 with rfl | h2
  ·exact key 48 (.inl rfl)
  ·rw [List.mem_singleton.mp h2]; exact key 49 (.inr rfl)
theorem ii (n:Nat): ∀ ss:List (List Nat),lows n (ss.map .str)
 | []=>trivial
 | _::r=>⟨trivial,ii n r⟩
noncomputable def az (xs:List Rm):Nat:=xs.foldr (fun x m=>max x.1.length m) 0
theorem gL: ∀ {xs:List Rm},∀ x∈xs,x.1.length≤az xs
 | y::xs,x,h=>by
  show _≤max y.1.length (az xs)
  rcases List.mem_cons.mp h with rfl | h
  ·exact Nat.le_max_left _ _
  ·exact Nat.le_trans (gL x h) (Nat.le_max_right _ _)
theorem eU: ∀ {xs:List Rm},xs≠[]→∃ x∈xs,x.1.length=az xs
 | [x],_=>⟨x,List.mem_singleton.mpr rfl,(Nat.max_zero _).symm⟩
 | x::y::xs,_=>by
  obtain ⟨z,h1,h2⟩:=eU (xs:=y::xs) (fun e=>nomatch e)
  show ∃ w∈x::y::xs,w.1.length=max x.1.length (az (y::xs))
  by_cases h:x.1.length≤az (y::xs)
  ·exact ⟨z,List.mem_cons_of_mem _ h1,by rw [Nat.max_eq_right h]; exact h2⟩
  ·exact ⟨x,List.mem_cons_self,by rw [Nat.max_eq_left (Nat.le_of_not_le h)]⟩
noncomputable def cP (xs:List Rm) (w:List Nat):List Nat:=((xs.filter fun x=>x.1.isPrefixOf w).head?.map (·.1)).getD []
noncomputable def bL (xs:List Rm):List (List Nat):=(aU (az xs)).map (cP xs)
section
variable {C:Cx} {k:Nat} {H:List HO}
theorem td (F:bc C "places_of" ["depth"] iC) {d:Nat} (hd:d≤8):Calls C (k+1) "places_of" [.int d] H (.ok (.lst ((aU d).map .str))) H:=by
 refine ao F rfl (aD (aM (aJ aI) .lst) ?_)
 refine cW (fun i st=>(∃ L,st.H=H++L)∧st.s "found" =some (.lst ((aU i).map .str))) (ay (aJ (aa rfl)) (.range1 _)) (bI (n:=d) (by exact lin [d] [(1,.v 0,.n 8)] 1 (.v 0) (.n 1000000) rfl hd)) ⟨⟨[],(List.append_nil H).symm⟩,rfl⟩ ?_ ?_
 ·rintro i w ⟨s,H'⟩ hw ⟨⟨L,e1⟩,e2⟩ Q' hQ
  have e1:H'=H++L:=e1
  obtain ⟨hi,rfl⟩:=eA hw
  refine aD (aM aL .loc) ?_
  refine cW (fun m st=>st.H=H'++[.list ((((aU i).take m).flatMap fun t=>[t++[48],t++[49]]).map .str)]∧st.s "longer" =some (.loc H'.length)) (aa (by exact e2)) (.lst _) ⟨rfl,rfl⟩ ?_ ?_
  ·rintro m w ⟨s,H''⟩ hw ⟨q1,q2⟩ Q' hQ
   have q1:H''=_:=q1
   subst q1
   obtain ⟨hm,rfl⟩:=cr hw
   have hl:=(cX i _ (List.getElem_mem hm)).1
   have p2:2 ^ i≤2 ^ 8:=Nat.pow_le_pow_right (by decide) (by exact lin [i,d] [(1,.v 1,.n 8),(1,.a (.v 0) (.n 1),.v 1)] 1 (.v 0) (.n 8) rfl hd hi)
   have pl:=dW i
   have cnt:((((aU i).take m).flatMap fun t=>[t++[48],t++[49]]).map V.str).length≤512:=by
    rw [List.length_map,kg,List.length_take]; lia
   refine iZ (cc (aa (by exact q2)) cj (aJ (af (aa rfl) aI (.cat ?_))) cj (Nat.lt_of_le_of_lt cnt (by decide))) ?_
   ·rw [hl]; show i+1≤_; exact lin [i,d] [(1,.v 1,.n 8),(1,.a (.v 0) (.n 1),.v 1)] 1 (.a (.v 0) (.n 1)) (.n 16000000) rfl hd hi
   have g1: ∀ xs:List V,((H'++[HO.list ((((aU i).take m).flatMap fun t=>[t++[48],t++[49]]).map .str)]).set H'.length (.list xs))[H'.length]?= some (.list xs):=fun xs=>by rw [fo]; exact cj
   refine iZ (cc (aa (by exact q2)) (g1 _) (aJ (af (aa rfl) aI (.cat ?_))) (g1 _) (by rw [List.length_append]; exact Nat.lt_of_le_of_lt (Nat.add_le_add_right cnt 1) (by decide))) (br (hQ _ (by
    refine ⟨?_,q2⟩
    show ((H'++[_]).set H'.length _).set H'.length _=_
    rw [fo,fo,List.take_succ_eq_append_getElem hm,List.flatMap_append,List.flatMap_singleton,List.map_append,List.append_assoc]; rfl)).1)
   ·rw [hl]; show i+1≤_; exact lin [i,d] [(1,.v 1,.n 8),(1,.a (.v 0) (.n 1),.v 1)] 1 (.a (.v 0) (.n 1)) (.n 16000000) rfl hd hi
  ·rintro ⟨s,H''⟩ ⟨q1,q2⟩
   have q1:H''=_:=q1
   subst q1
   refine aD (qY q2 cj) (br (hQ _ (by
    refine ⟨⟨L++[.dead],?_⟩,?_⟩
    ·show (H'++[_]).set H'.length .dead=_
     rw [fo,e1,List.append_assoc]
    ·show some (V.lst ((((aU i).take ((aU i).map V.str).length).flatMap fun t=>[t++[48],t++[49]]).map V.str))=_
     rw [List.length_map,List.take_length]; rfl)).1)
 ·rintro ⟨s,H'⟩ ⟨⟨L,e1⟩,e2⟩
  have e1:H'=H++L:=e1
  subst e1
  refine aQ (bw (aa e2) (by rw [List.length_map,List.length_range])) ⟨rfl,ii _ _,List.take_left ..⟩
variable {i j b:Nat} {ts:Ts}
theorem kq (g:Stk b ts):az (ae b ts)≤8:=by
 obtain ⟨x,h1,h2⟩:=eU (xs:=ae b ts) (ez 8 [] ts)
 rw [← h2]; exact (g.room h1).1
theorem wx (F:bc C "Store.depth" ["self"] fc) (hz:ar H) {b:Int} (S:cp H i j b ts) {rs:List Rm} (hn:rs≠[]) (Gr:Calls C k "Store.rooms" [.loc i] H (.ok (.lst (rs.map aH))) H):Calls C (k+1) "Store.depth" [.loc i] H (.ok (.int (az rs:Nat))) H:=by
 obtain ⟨x,h1,h2⟩:=eU hn
 have vw:fY H (.lst (rs.map fun x=>V.int (x.1.length:Nat))) ((rs.map fun x=>(x.1.length:Int)).map .int):=by rw [List.map_map]; exact .lst _
 exact ao F rfl (aQ (ay (aJ (dg (g:=aH) (q:=fun x=>V.int (x.1.length:Nat)) (rs:=rs) (aV (aa rfl) S.at rfl aL Gr) (.lst _) (fun x _=>ay (aJ (ai (aa rfl) ac bd)) (.len (.str _))) .lst))
  (.max1 hz vw (List.mem_map.mpr ⟨x,h1,congrArg Int.ofNat h2⟩) fun n hn=>by obtain ⟨y,h3,rfl⟩:=List.mem_map.mp hn; exact Int.ofNat_le.mpr (gL y h3))) (au rfl trivial))
theorem wB {rs:List Rm} {w:List Nat} (h: ∃ x∈rs,x.1 <+: w):((rs.filter fun x=>x.1.isPrefixOf w).map fun x=>V.str x.1)[(0:Int).toNat]?= some (.str (cP rs w)):=by
 obtain ⟨x,h1,h2⟩:=h
 unfold cP
 cases e:rs.filter fun x=>x.1.isPrefixOf w with
 | nil=>
  have:x∈rs.filter fun x=>x.1.isPrefixOf w:=List.mem_filter.mpr ⟨h1,List.isPrefixOf_iff_prefix.mpr h2⟩
  rw [e] at this; cases this
 | cons y r=>rfl
theorem jm {w:List Nat} (hw:w∈aU (az (ae b ts))): ∃ x∈ae b ts,x.1 <+: w:=by
 obtain ⟨h1,h2⟩:=cX _ w hw
 exact oW 8 [] ts w List.nil_prefix h2 fun x hx=>by rw [h1]; exact gL x hx
theorem wz (F:bc C "Store.board" ["self"] fe) (hz:ar H) (g:Stk b ts) (S:cp H i j b ts) (Gr:Calls C k "rooms_for" [.lst (ts.map pr),.int b] H (.ok (.lst ((ae b ts).map aH))) H)
  (Gd: ∀ H:List HO,ar H→cp H i j b ts→Calls C k "Store.depth" [.loc i] H (.ok (.int (az (ae b ts):Nat))) H) (Gp: ∀ H:List HO,Calls C k "places_of" [.int (az (ae b ts):Nat)] H (.ok (.lst ((aU (az (ae b ts))).map .str))) H):
  Calls C (k+1) "Store.board" [.loc i] H (.ok (.lst ((bL (ae b ts)).map .str))) H:=by
 refine ao F rfl (aD (rd (g:=aH) (q:=fun x=>V.str x.1) (rs:=ae b ts) (ah (cz (bK (aa rfl) S.at rfl) (bK (aa rfl) S.at rfl)) Gr) (.lst _) (fun x _=>ai (aa rfl) ac bd) .lst) (aD (aM aL .loc) ?_))
 refine cW (fun m st=>st.H=H++[.list ((((aU (az (ae b ts))).take m).map (cP (ae b ts))).map .str)]∧st.s "found" =some (.loc H.length)∧st.s "every" =some (.lst ((ae b ts).map fun x=>V.str x.1)))
  (ah (aJ (aV (aa rfl) (S.ext _).at rfl aL (Gd _ (mm hz fun _=>HO.noConfusion) (S.ext _)))) (Gp _)) (.lst _) ⟨rfl,rfl,rfl⟩ ?_ ?_
 ·rintro m w ⟨s,H'⟩ hw ⟨q1,q2,q3⟩ Q' hQ
  have q1:H'=_:=q1
  subst q1
  obtain ⟨hm,rfl⟩:=cr hw
  have p2:2 ^ az (ae b ts)≤2 ^ 8:=Nat.pow_le_pow_right (by decide) (kq g)
  have pl:=dW (az (ae b ts))
  refine iZ (cc (aa (by exact q2)) cj (aJ (ai (bG (g:=fun x:Rm=>V.str x.1) (q:=fun x=>V.str x.1) (p:=fun x=>x.1.isPrefixOf (aU (az (ae b ts)))[m]) (rs:=ae b ts) (aa (by exact q3)) (.lst _)
   (fun x _=>io (aa rfl) (.starts _) (aJ (aa rfl)) (.starts _ _)) (fun _ _ _=>aa rfl) .lst) ac (.seq (.lst _) (by decide) (wB (jm (List.getElem_mem hm)))))) cj ?_) (br (hQ _ (by
    refine ⟨?_,q2,q3⟩
    show (H++[_]).set H.length _=_
    rw [fo,List.take_succ_eq_append_getElem hm,List.map_append,List.map_append]; rfl)).1)
  rw [List.length_map,List.length_map,List.length_take]; lia
 ·rintro ⟨s,H'⟩ ⟨q1,q2,q3⟩
  have q1:H'=_:=q1
  subst q1
  refine aQ (bw (qY q2 cj) (by rw [List.length_map,List.take_length]; rfl)) ⟨rfl,ii _ _,?_⟩
  show ((H++[_]).set H.length .dead).take H.length=H
  rw [fo,List.take_left]
end
theorem yk (ts:Ts):pl 6 (.lst (ts.map pr))=true:=by
 show (false || List.all (ts.map pr) (pl 5))=true
 rw [Bool.false_or,List.all_map,List.all_eq_true]; exact fun _ _=>rfl
mutual
theorem bZ: ∀ v:V,eqB v v=true
 | .none=>rfl
 | .bool b=>beq_self_eq_true b
 | .int i=>beq_self_eq_true i
 | .str s=>mF s
 | .tup vs=>ir vs
 | .lst vs=>ir vs
 | .rng _ _ _=>rfl
 | .loc _=>rfl
theorem ir: ∀ vs:List V,PyData.eqvAll (jO vs) (jO vs)=true
 | []=>rfl
 | v::vs=>Bool.and_eq_true_iff.mpr ⟨bZ v,ir vs⟩
end
end
noncomputable section
open PySem
theorem gz (cs:List Nat) (c:Nat):hV (cs++[c])=2*hV cs+(c - 48):=by rw [hV,List.foldl_append]; rfl
theorem eR {α β:Type} (f g:α→β): ∀ (l:List α) (i:Nat),(l.flatMap fun t=>[f t,g t])[2*i]?= l[i]?.map f∧(l.flatMap fun t=>[f t,g t])[2*i+1]?= l[i]?.map g
 | [],i=>⟨rfl,rfl⟩
 | x::l,0=>⟨rfl,rfl⟩
 | x::l,i+1=>by
  have e:((x::l).flatMap fun t=>[f t,g t])=f x::g x::l.flatMap fun t=>[f t,g t]:=rfl
  rw [e,show 2*(i+1)=2*i+1+1 from rfl,List.getElem?_cons_succ,List.getElem?_cons_succ,List.getElem?_cons_succ,List.getElem?_cons_succ,List.getElem?_cons_succ]
  exact eR f g l i
theorem jl: ∀ (n:Nat) (w:List Nat),w.length=n→(∀ c∈w,c=48∨c=49)→(aU n)[hV w]?= some w
 | 0,w,h,_=>by rw [List.eq_nil_of_length_eq_zero h]; rfl
 | n+1,w,h,hb=>by
  rcases List.eq_nil_or_concat w with rfl | ⟨u,c,rfl⟩
  ·cases h
  rw [List.concat_eq_append] at*
  rw [List.length_append] at h
  have ih:=jl n u (Nat.succ.inj h) fun c hc=>hb c (List.mem_append.mpr (.inl hc))
  rw [gz,aU]
  rcases hb c (List.mem_append.mpr (.inr (List.mem_singleton.mpr rfl))) with rfl | rfl
  ·exact (eR _ _ _ _).1.trans (by rw [ih]; rfl)
  ·exact (eR _ _ _ _).2.trans (by rw [ih]; rfl)
theorem dU: ∀ (n i:Nat) (w:List Nat),(aU n)[i]?= some w→hV w=i
 | 0,i,w,h=>by
  cases i with
  | zero=>cases h; rfl
  | succ i=>cases h
 | n+1,i,w,h=>by
  rw [aU] at h
  rcases Nat.mod_two_eq_zero_or_one i with e | e
  ·obtain ⟨j,rfl⟩: ∃ j,i=2*j:=⟨i / 2,by lia⟩
   rw [(eR _ _ _ _).1] at h
   obtain ⟨u,h1,rfl⟩:=Option.map_eq_some_iff.mp h
   rw [gz,dU n j u h1]; exact l_a (lin [j,_] [(1,.a (.v 1) (.n 48),.n 48)] 1 (.a (.m 2 (.v 0)) (.v 1)) (.m 2 (.v 0)) rfl (l_d (lin [] [] 1 (.n 48) (.n 48) rfl ))) (lin [j,_] [] 1 (.m 2 (.v 0)) (.a (.m 2 (.v 0)) (.v 1)) rfl )
  ·obtain ⟨j,rfl⟩: ∃ j,i=2*j+1:=⟨i / 2,by lia⟩
   rw [(eR _ _ _ _).2] at h
   obtain ⟨u,h1,rfl⟩:=Option.map_eq_some_iff.mp h
   rw [gz,dU n j u h1]
theorem sv (n:Int) {d:Nat} (h:d≤8):((sgn n).take d).length=d∧∀ c∈(sgn n).take d,c=48∨c=49:=
 ⟨by rw [List.length_take,(hJ n).1]; exact Nat.min_eq_left (h),fun c hc=>(hJ n).2 c (List.mem_of_mem_take hc)⟩
section
variable {C:Cx} {k:Nat} {H:List HO} {i j b:Nat} {ts:Ts}
noncomputable def kU (b:Nat) (ts:Ts) (n:Int):List Nat:=(sgn n).take (az (ae b ts))
theorem zP (F:bc C "Store.look" ["self", "name"] fV) (hz:ar H) (g:Stk b ts) (S:cp H i j b ts) {n:Int} (Gn:Calls C k "need_name" [.int n] H (.ok .none) H) (Gd:Calls C k "Store.depth" [.loc i] H (.ok (.int (az (ae b ts):Nat))) H)
  (Gs: ∀ m:Int,m=n∨(0≤m∧m≤255)→Calls C k "signs" [.int m] H (.ok (.str (sgn m))) H) (Gp:Calls C k "places_of" [.int (az (ae b ts):Nat)] H (.ok (.lst ((aU (az (ae b ts))).map .str))) H) (Gb:Calls C k "Store.board" [.loc i] H (.ok (.lst ((bL (ae b ts)).map .str))) H):
  Calls C (k+1) "Store.look" [.loc i,.int n] H (.ok (.tup [.int (hV (kU b ts n):Nat),.str (cP (ae b ts) (kU b ts n)),.int ((at_ (cP (ae b ts) (kU b ts n)) ts).length:Nat)])) H:=by
 obtain ⟨l1,l2⟩:=sv n (kq g)
 have pg:=jl _ _ l1 l2
 have bg:((bL (ae b ts)).map V.str)[((hV (kU b ts n):Nat):Int).toNat]?= some (.str (cP (ae b ts) (kU b ts n))):=by
  rw [Int.toNat_natCast,bL,List.map_map,List.getElem?_map,kU,pg]; rfl
 refine ao F rfl (iZ (ah (aJ (aa rfl)) Gn) (aD (aV (aa rfl) S.at rfl aL Gd) (aD (ah (aJ (aa rfl)) (Gs n (.inl rfl))) ?_)))
 refine aD (io (ah (aJ (aa rfl)) Gp) (.index (.lst _)) (aJ (bw (bJ (aa rfl) rfl (aa rfl) (.str _)) (v':=.str (kU b ts n)) (congrArg V.str (bU _ _)))) (.index (ss:=aU (az (ae b ts))) (.lst _) pg fun m hm e=>absurd (dU _ _ _ e) (Nat.ne_of_gt hm))) ?_
 refine aD (ai (aV (aa rfl) S.at rfl aL Gb) (aa rfl) (.seq (.lst _) (Int.natCast_nonneg _) bg)) ?_
 refine aQ (cg (kj (aa rfl) (aa rfl) (bw (ay (aJ (bG (g:=pr) (q:=pr) (p:=fun t=>(cP (ae b ts) (kU b ts n)).isPrefixOf (sgn t.1)) (rs:=ts) (bK (aa rfl) S.at rfl) (.lst _) (fun t ht=>io (ah (aJ (ai (aa rfl) ac bC)) (Gs _ (.inr (g.ok.low t ht)))) (.starts _) (aJ (aa rfl)) (.starts _ _)) (fun _ _ _=>aa rfl) .lst)) (.len (.seq (.lst _)))) (by rw [List.length_map]; rfl)))) (au rfl ⟨trivial,trivial,trivial,trivial⟩)
end
end
noncomputable section
open PySem
noncomputable def eW:Ss:=
 (.cons (.asg "_law_left" (.bin .Mod (.bin .Add (.bin .Mult (.int 171) (.var "_law_name_here")) (.int 37)) (.int 256)))
 (.cons (.asg "_law_found" (.str []))
 (.cons (.for_ "_law_worth" (.list (.cons (.int 128) (.cons (.int 64) (.cons (.int 32) (.cons (.int 16) (.cons (.int 8) (.cons (.int 4) (.cons (.int 2) (.cons (.int 1) .nil))))))))) (.cons (.asg "_law_found" (.bin .Add (.var "_law_found") (.blt .str (.cons (.blt .int (.cons (.cmp .GtE (.var "_law_left") (.var "_law_worth")) .nil)) .nil))))
 (.cons (.asg "_law_left" (.bin .Sub (.var "_law_left") (.bin .Mult (.var "_law_worth") (.blt .int (.cons (.cmp .GtE (.var "_law_left") (.var "_law_worth")) .nil)))))
 .nil)))
 (.cons (.ret (.var "_law_found"))
 .nil))))
noncomputable def jB:Ss:=
 (.cons (.for_ "_law_deed" (.var "_law_deeds_here") (.cons (.try_ (.cons (.ite (.cmp .Eq (.idx (.var "_law_deed") (.int 0)) (.str [112,117,116])) (.cons (.ex (.mcall "Store.put" "put" (.var "_law_store") (.cons (.idx (.var "_law_deed") (.int 1)) (.cons (.idx (.var "_law_deed") (.int 2)) .nil))))
 .nil) (.cons (.ex (.mcall "Store.take" "take" (.var "_law_store") (.cons (.idx (.var "_law_deed") (.int 1)) .nil)))
 .nil))
 .nil) "NoThing" none (.cons (.asg "_law_plain" (.compIf (.var "_law_one") "_law_one" (.var "_law_plain") (.cmp .NotEq (.idx (.var "_law_one") (.int 0)) (.idx (.var "_law_deed") (.int 1)))))
 .nil))
 (.cons (.asg "_law_plain" (.call "_law_behind" (.cons (.var "_law_plain") (.cons (.var "_law_deed") .nil))))
 .nil)))
 (.cons (.ret (.var "_law_plain"))
 .nil))
noncomputable def eY:Ss:=
 (.cons (.ite (.or (.cons (.not (.isi (.var "_law_bits") "str")) (.cons (.cmp .Gt (.blt .len (.cons (.var "_law_bits") .nil)) (.int 8)) .nil))) (.cons (.ret (.bool false))
 .nil) .nil)
 (.cons (.ret (.cmp .Eq (.compIf (.var "_law_sign") "_law_sign" (.var "_law_bits") (.and (.cons (.cmp .NotEq (.var "_law_sign") (.str [48])) (.cons (.cmp .NotEq (.var "_law_sign") (.str [49])) .nil)))) (.list .nil)))
 .nil))
noncomputable def em:Ss:=
 (.cons (.ret (.and (.cons (.isi (.var "_law_one") "tuple") (.cons (.cmp .Eq (.blt .len (.cons (.var "_law_one") .nil)) (.int 2)) (.cons (.call "_law_whole" (.cons (.idx (.var "_law_one") (.int 0)) .nil)) (.cons (.call "_law_whole" (.cons (.idx (.var "_law_one") (.int 1)) .nil)) .nil))))))
 .nil)
noncomputable def eX:Ss:=
 (.cons (.ite (.or (.cons (.not (.isi (.var "_law_room_here") "tuple")) (.cons (.cmp .NotEq (.blt .len (.cons (.var "_law_room_here") .nil)) (.int 2)) (.cons (.not (.call "_law_is_bits" (.cons (.idx (.var "_law_room_here") (.int 0)) .nil))) .nil)))) (.cons (.ret (.bool false))
 .nil) .nil)
 (.cons (.ite (.or (.cons (.not (.isi (.idx (.var "_law_room_here") (.int 1)) "list")) (.cons (.cmp .Gt (.blt .len (.cons (.idx (.var "_law_room_here") (.int 1)) .nil)) (.var "_law_bound_here")) .nil))) (.cons (.ret (.bool false))
 .nil) .nil)
 (.cons (.ite (.cmp .NotEq (.compIf (.var "_law_one") "_law_one" (.idx (.var "_law_room_here") (.int 1)) (.not (.call "_law_is_thing" (.cons (.var "_law_one") .nil)))) (.list .nil)) (.cons (.ret (.bool false))
 .nil) .nil)
 (.cons (.for_ "_law_k" (.blt .range (.cons (.blt .len (.cons (.idx (.var "_law_room_here") (.int 1)) .nil)) .nil)) (.cons (.ite (.and (.cons (.cmp .Gt (.var "_law_k") (.int 0)) (.cons (.cmp .GtE (.idx (.idx (.idx (.var "_law_room_here") (.int 1)) (.bin .Sub (.var "_law_k") (.int 1))) (.int 0)) (.idx (.idx (.idx (.var "_law_room_here") (.int 1)) (.var "_law_k")) (.int 0))) .nil))) (.cons (.ret (.bool false))
 .nil) .nil)
 (.cons (.ite (.or (.cons (.not (.cmp2 .LtE .LtE (.int 0) (.idx (.idx (.idx (.var "_law_room_here") (.int 1)) (.var "_law_k")) (.int 0)) (.int 255))) (.cons (.cmp .NotEq (.slc (.call "_law_signs" (.cons (.idx (.idx (.idx (.var "_law_room_here") (.int 1)) (.var "_law_k")) (.int 0)) .nil)) .omit (.blt .len (.cons (.idx (.var "_law_room_here") (.int 0)) .nil))) (.idx (.var "_law_room_here") (.int 0))) .nil))) (.cons (.ret (.bool false))
 .nil) .nil)
 .nil)))
 (.cons (.ret (.bool true))
 .nil)))))
section
variable {C:Cx} {k:Nat} {H:List HO}
theorem th (F:bc C "_law_signs" ["_law_name_here"] eW) (n:Int):Calls C (k+1) "_law_signs" [.int n] H (.ok (.str (sgn n))) H:=by
 refine ao F rfl (aD (af (af (af ac (aa rfl) (.mul (.inl (by decide)))) ac (.add _ _)) ac (.mod (by decide))) (aD aI ?_))
 refine cW (items:=worths.map .int) (fun i st=>st.H=H∧st.s "_law_left" =some (.int (oH ((171*n+37) % 256) i).1)∧st.s "_law_found" =some (.str (oH ((171*n+37) % 256) i).2))
  (aM (aE ac (aE ac (aE ac (aE ac (aE ac (aE ac (aE ac (aJ ac)))))))) .lst) (.lst _) ⟨rfl,rfl,rfl⟩ ?_ fun st e=>aQ (aa e.2.2) (au e.1 trivial)
 rintro i w ⟨s,H'⟩ hw ⟨e1,e2,e3⟩ Q' hQ
 have e1:H'=H:=e1
 subst e1
 rw [List.getElem?_map] at hw
 obtain ⟨w,hw',rfl⟩:=Option.map_eq_some_iff.mp hw
 clear hw
 obtain ⟨hi,hw⟩:=List.getElem?_eq_some_iff.mp hw'
 have hi:i < 8:=hi
 have en:oH ((171*n+37) % 256) (i+1)=ji (oH ((171*n+37) % 256) i) w:=by
  rw [oH,List.take_succ_eq_append_getElem (show i < worths.length from hi),List.foldl_append,hw]; rfl
 have hl:=(qc ((171*n+37) % 256) i (Nat.le_of_lt hi)).1
 generalize oH ((171*n+37) % 256) (i+1)=p' at en hQ
 subst en
 generalize oH ((171*n+37) % 256) i=p at e2 e3 hl hQ
 have hd:=ju (decide (w≤p.1))
 refine aD (af (aa (by exact e3)) (ay (aJ (ay (aJ (ip (aa (by exact e2)) (aa rfl) (.ge _ _))) (.int _))) (.str (jC _))) (.cat ?_)) ?_
 ·show _+(aw (b01 (decide (w≤p.1)))).length≤_
  rw [hd,hl,List.length_singleton]; exact lin [i] [(1,.a (.v 0) (.n 1),.n 8)] 1 (.a (.v 0) (.n 1)) (.n 16000000) rfl hi
 ·refine aD (af (aa (by exact e2)) (af (aa rfl) (ay (aJ (ip (aa (by exact e2)) (aa rfl) (.ge _ _))) (.int _)) (.mul (.inr (rK _)))) (.sub _ _)) (br (hQ _ ⟨rfl,rfl,?_⟩).1)
  show some (V.str (p.2++aw (b01 (decide (w≤p.1)))))=_
  rw [hd]; rfl
noncomputable def bA (ts:Ts) (ds:List cH):Ts:=ds.foldl bhT ts
theorem jY (ds:List cH): ∀ ts:Ts,Ok ts→tZ ts→(∀ d∈ds,DOk d)→Ok (bA ts ds)∧tZ (bA ts ds):=by
 induction ds with
 | nil=>exact fun ts h1 h2 _=>⟨h1,h2⟩
 | cons d ds ih=>exact fun ts h1 h2 h=>ih _ (wC h1 h2 (h d List.mem_cons_self)).1 (wC h1 h2 (h d List.mem_cons_self)).2 fun x hx=>h x (List.mem_cons_of_mem _ hx)
theorem oN (ts:Ts) {ds:List cH} {i:Nat} (h:i < ds.length):bA ts (ds.take (i+1))=bhT (bA ts (ds.take i)) ds[i]:=by
 rw [bA,List.take_succ_eq_append_getElem h,List.foldl_append]; rfl
theorem yj (ts:Ts) (ds es:List cH):bA (bA ts ds) es=bA ts (ds++es):=by rw [bA,bA,bA,List.foldl_append]
theorem nv:Ok []∧tZ []:=⟨⟨List.Pairwise.nil,fun t h=>by cases h⟩,fun t h=>by cases h⟩
theorem kr {st:St} {v:V} {n:Nat} {x:String} (h:st.s x=some v) (hl:low n v):(st.cut n).s x=some v:=by
 show (st.s x).bind _=_
 rw [h]; exact if_pos hl
theorem hZ {j:Nat} {o:HO} (h:ar H) (ho: ∀ c,o≠.inst c):ar (H.set j o):=fun c q=>by
 rcases List.mem_or_eq_of_mem_set q with q | q
 ·exact h c q
 ·exact ho c q.symm
theorem ug (ts:Ts) (n:Int):(gc ts n=.none∧woT ts n=ts)∨∃ v,gc ts n=.int v:=by
 unfold gc
 cases e:ts.find? fun t=>decide (t.1=n) with
 | none=>
  refine .inl ⟨rfl,List.filter_eq_self.mpr fun t ht=>?_⟩
  rw [List.find?_eq_none] at e
  have:=e t ht
  rw [Bool.not_eq_true] at this
  rw [this]; rfl
 | some t=>exact .inr ⟨_,rfl⟩
variable {i j:Nat} {b:Int} {ts:Ts}
theorem ww (F:bc C "_law_fill" ["_law_store", "_law_deeds_here", "_law_plain"] jB) (hz:ar H) (S:cp H i j b ts) (ho:Ok ts) (hv:tZ ts) {ds:List cH} (hd: ∀ d∈ds,DOk d)
  (Gp: ∀ (H:List HO) (ts:Ts) (d:cH),cp H i j b ts→Ok ts→DOk d→Calls C k "Store.put" [.loc i,.int d.2.1,.int d.2.2] H (.ok (gc ts d.2.1)) (H.set j (stA b (ce ts d.2.1 d.2.2))))
  (Gt: ∀ (H:List HO) (ts:Ts) (d:cH) (v:Int),cp H i j b ts→DOk d→gc ts d.2.1=.int v→Calls C k "Store.take" [.loc i,.int d.2.1] H (.ok (.int v)) (H.set j (stA b (woT ts d.2.1))))
  (Gx: ∀ (H:List HO) (ts:Ts) (d:cH),ar H→cp H i j b ts→DOk d→gc ts d.2.1=.none→Calls C k "Store.take" [.loc i,.int d.2.1] H (.err "NoThing") H)
  (Gb: ∀ (H:List HO) (ts:Ts) (d:cH),Ok ts→Calls C k "_law_behind" [.lst (ts.map pr),dV d] H (.ok (.lst ((bhT ts d).map pr))) H):
  Calls C (k+1) "_law_fill" [.loc i,.lst (ds.map dV),.lst (ts.map pr)] H (.ok (.lst ((bA ts ds).map pr))) (H.set j (stA b (bA ts ds))):=by
 refine ee F rfl (cW (fun m st=>st.H=H.set j (stA b (bA ts (ds.take m)))∧st.s "_law_store" =some (.loc i)∧st.s "_law_plain" =some (.lst ((bA ts (ds.take m)).map pr))) (aa rfl) (.lst _) ⟨?_,rfl,rfl⟩ ?_ ?_)
 ·show H=H.set j (stA b ts)
  have:=S.att
  rw [← (List.getElem?_eq_some_iff.mp this).2,List.set_getElem_self]
 ·rintro m w ⟨s,H'⟩ hw ⟨e1,e2,e3⟩ Q' hQ
  have e1:H'=_:=e1
  obtain ⟨hm,rfl⟩:=cr hw
  have S':cp H' i j b (bA ts (ds.take m)):=by rw [e1]; exact S.set
  have hz':ar H':=by rw [e1]; exact hZ hz fun _=>HO.noConfusion
  have lt:i < H'.length:=(List.getElem?_eq_some_iff.mp S'.obj).1
  have nx:=oN ts hm
  have ok:=jY (ds.take m) ts ho hv fun d q=>hd d (List.mem_of_mem_take q)
  have hset: ∀ x,H'.set j (stA b x)=H.set j (stA b x):=fun x=>by rw [e1,List.set_set]
  rw [nx] at hQ
  have dk:=hd _ (List.getElem_mem hm)
  generalize ds[m]=d at*
  generalize bA ts (ds.take m)=p at*
  have e2:s "_law_store" =some (.loc i):=e2
  have e3:s "_law_plain" =some (.lst (p.map pr)):=e3
  have gb:=fun H=>Gb H p d ok.1
  refine Ck hz' ?_
  cases hp:d.1 with
  | true=>
   have eb:bhT p d=ce p d.2.1 d.2.2:=by rw [bhT,hp]; rfl
   exact dx (ag (ai (aa rfl) ac nX) aI (.eq (.self _) (.self _) rfl rfl) ((gB d).trans hp)) (iZ (gH (aa (by exact e2)) S'.at rfl (cz (ai (aa rfl) ac iy) (ai (aa rfl) ac mJ)) (Gp _ _ d S' ok.1 dk)) (br (aX (br (aX (aD (ah (cz (aa (by exact e3)) (aa rfl)) (gb _)) (br (hQ _ (by exact ⟨by rw [eb]; exact hset _,e2,rfl⟩)).1)))))))
  | false=>
   refine uS (ag (ai (aa rfl) ac nX) aI (.eq (.self _) (.self _) rfl rfl) ((gB d).trans hp)) ?_
   have eb:bhT p d=woT p d.2.1:=by rw [bhT,hp]; rfl
   rcases ug p d.2.1 with ⟨h2,h3⟩ | ⟨v,h2⟩
   ·have tk:(H'++[HO.inst "NoThing"]).take H'.length=H':=List.take_left ..
    exact Cm (qW (aa (by exact e2)) S'.at rfl (aJ (ai (aa rfl) ac iy)) (Gx _ _ d hz' S' dk h2)) ⟨⟨rfl,hz',rfl⟩,aD (bw (bG (g:=pr) (q:=pr) (p:=fun t=>!decide (t.1=d.2.1)) (rs:=p) (aa (by exact e3)) (.lst _) (fun t _=>ag (ai (aa rfl) ac bC) (ai (aa rfl) ac iy) bz rfl) (fun _ _ _=>aa rfl) .lst) (v':=.lst (p.map pr)) (congrArg (fun l=>V.lst (l.map pr)) h3))
     (br ⟨trivial,tk,aX (aD (ah (cz (aa (kr rfl (bV _ _))) (aa (kr rfl ⟨trivial,trivial,trivial,trivial⟩))) (gb _)) (br (hQ _ (by
      refine ⟨?_,kr (by exact e2) lt,rfl⟩
      rw [eb,h3]; exact tk.trans e1)).1))⟩)⟩
   ·exact iZ (gH (aa (by exact e2)) S'.at rfl (aJ (ai (aa rfl) ac iy)) (Gt _ _ d v S' dk h2)) (br (aX (br (aX (aD (ah (cz (aa (by exact e3)) (aa rfl)) (gb _)) (br (hQ _ (by exact ⟨by rw [eb]; exact hset _,e2,rfl⟩)).1))))))
 ·rintro ⟨s,H'⟩ ⟨e1,e2,e3⟩
  rw [List.length_map,List.take_length] at e1 e3
  exact aQ (aa e3) ⟨rfl,e1⟩
theorem kl {α:Type} {Φ:Orc} {G:String→Option V} {st st₁:St} {elt it c:E} {x:String} {vi:V} {g:α→V} {rs:List α} (hi:Ev Φ G it st vi st₁) (hs:du vi (rs.map g)) (hc: ∀ r∈rs,Ev Φ G c (st₁.set x (g r)) (.bool false) (st₁.set x (g r))):Ev Φ G (.compIf elt x it c) st (.lst []) st₁:=
 bw (bG (g:=g) (q:=g) (p:=fun _=>false) hi hs hc (fun _ _ h=>Bool.noConfusion h) .lst) (congrArg V.lst (by rw [List.filter_eq_nil_iff.mpr fun _ _=>Bool.false_ne_true]; rfl))
theorem rC (F:bc C "_law_is_bits" ["_law_bits"] eY) {bs:List Nat} (h8:bs.length≤8) (hb: ∀ c∈bs,c=48∨c=49):Calls C (k+1) "_law_is_bits" [.str bs] H (.ok (.bool true)) H:=by
 refine ao F rfl (aG (gn (fv (cJ (cM (aa rfl) (.str _) rfl)) (fv (ag (ay (aJ (aa rfl)) (.len (.str _))) ac (.gt _ _) (decide_eq_false (Int.not_lt.mpr (Int.ofNat_le.mpr h8)))) dn))) (aQ (ag (kl (g:=fun c=>V.str [c]) (rs:=bs) (aa rfl) (.str _) fun c hc=>?_) (aM aL .lst) (.eq (.self _) (.self _) rfl rfl) rfl) (au rfl trivial)))
 rcases hb c hc with rfl | rfl
 ·exact cv (iP (ag (aa rfl) aI (.ne (.self _) (.self _) rfl rfl) (by rw [bZ]; rfl)))
 ·exact cv (dt (ag (aa rfl) aI (.ne (.self _) (.self _) rfl rfl) (by rw [mE]; rfl)) (iP (ag (aa rfl) aI (.ne (.self _) (.self _) rfl rfl) (by rw [bZ]; rfl))))
theorem pk (F:bc C "_law_is_thing" ["_law_one"] em) (t:Int×Int) (Gw: ∀ n:Int,Calls C k "_law_whole" [.int n] H (.ok (.bool true)) H):Calls C (k+1) "_law_is_thing" [pr t] H (.ok (.bool true)) H:=
 ao F rfl (aQ (cv (dt (cM (aa rfl) (.tup _) rfl) (dt (ag (ay (aJ (aa rfl)) (.len (.tup _))) ac aW (bZ (.int 2))) (dt (ah (aJ (ai (aa rfl) ac bC)) (Gw _)) (dt (ah (aJ (ai (aa rfl) ac jX)) (Gw _)) kA))))) (au rfl trivial))
structure ua (b:Nat) (x:Rm):Prop where
 len:x.1.length≤8
 bits: ∀ c∈x.1,c=48∨c=49
 few:x.2.length≤b
 ok:Ok x.2
 pre:InP x.1 x.2
theorem rB {b:Nat} (F:bc C "_law_is_room" ["_law_room_here", "_law_bound_here"] eX) {x:Rm} (g:ua b x) (Gi:Calls C k "_law_is_bits" [.str x.1] H (.ok (.bool true)) H) (Gt: ∀ t,Calls C k "_law_is_thing" [pr t] H (.ok (.bool true)) H) (Gs: ∀ n:Int,Calls C k "_law_signs" [.int n] H (.ok (.str (sgn n))) H):
  Calls C (k+1) "_law_is_room" [aH x,.int b] H (.ok (.bool true)) H:=by
 have vx:fY H (.lst (x.2.map pr)) (x.2.map pr):=.lst _
 have len:=ny g.ok
 refine ao F rfl (aG (gn (fv (cJ (cM (aa rfl) (.tup _) rfl)) (fv (ag (ay (aJ (aa rfl)) (.len (.tup _))) ac bz fw) (fv (cJ (ah (aJ (ai (aa rfl) ac bd)) Gi)) dn)))) (aG (gn (fv (cJ (cM (ai (aa rfl) ac aK) (.seq vx) rfl)) (fv (ag (ay (aJ (ai (aa rfl) ac aK)) (.len (.seq vx))) (aa rfl) (.gt _ _) (decide_eq_false (by rw [List.length_map]; exact Int.not_lt.mpr (Int.ofNat_le.mpr g.few)))) dn)))
  (aG (ag (kl (g:=pr) (rs:=x.2) (ai (aa rfl) ac aK) (.lst _) (fun t _=>cJ (ah (aJ (aa rfl)) (Gt t)))) (aM aL .lst) (.ne (.self _) (.self _) rfl rfl) rfl) ?_)))
 refine cW (fun m st=>st.H=H∧st.s "_law_room_here" =some (aH x)) (ay (aJ (ay (aJ (ai (aa rfl) ac aK)) (.len (.seq vx)))) (.range1 _)) (bI (n:=(x.2.map pr).length) (by rw [List.length_map]; exact Nat.le_trans len (by decide))) ⟨rfl,rfl⟩ ?_ fun st e=>aQ mD (au e.1 trivial)
 rintro m w ⟨s,H'⟩ hw ⟨e1,e2⟩ Q' hQ
 have e1:H'=H:=e1
 subst e1
 obtain ⟨hm,rfl⟩:=eA hw
 rw [List.length_map] at hm
 have am:=rL vx hm
 have lo:=g.ok.low _ (List.getElem_mem hm)
 have nm: ∀ st:St,st.H=H'→st.s "_law_room_here" =some (aH x)→st.s "_law_k" =some (.int m)→Ev (Calls C k) C.glo (.idx (.idx (.idx (.var "_law_room_here") (.int 1)) (.var "_law_k")) (.int 0)) st (.int x.2[m].1) st:=fun st h1 h2 h3=>
  ai (ai (ai (aa h2) ac aK) (aa h3) (rL (.lst _) hm)) ac bC
 refine aG (c:=_) (st₁:=(St.mk s H').set "_law_k" (.int m)) ?_ (aG (gn (fv (cJ (fE ac (nm _ rfl (by exact e2) rfl) (dq lo.1) ac (dq lo.2))) (fv (ag (bw (bJ (ah (aJ (nm _ rfl (by exact e2) rfl)) (Gs _)) rfl (ay (aJ (ai (aa (by exact e2)) ac bd)) (.len (.str _))) (.str _)) (v':=.str x.1) (congrArg V.str ((bU _ _).trans (List.prefix_iff_eq_take.mp (g.pre _ (List.getElem_mem hm))).symm))) (ai (aa (by exact e2)) ac bd) (.ne (.self _) (.self _) rfl rfl) (by rw [bZ]; rfl)) dn))) (br (hQ _ (by exact ⟨rfl,e2⟩)).1))
 cases m with
 | zero=>exact cv (iP (ag (aa rfl) ac (.gt _ _) rfl))
 | succ m=>
  have hm':m < x.2.length:=Nat.lt_of_succ_lt hm
  have up:=List.pairwise_iff_getElem.mp g.ok.up m (m+1) hm' hm (Nat.lt_succ_self m)
  exact cv (dt (ag (aa rfl) ac (.gt _ _) (decide_eq_true (Int.ofNat_lt.mpr (Nat.succ_pos m)))) (iP (ag (ai (ai (ai (aa (by exact e2)) ac aK) (bw (af (aa rfl) ac (.sub _ _)) (v':=.int m) (congrArg V.int (Int.add_sub_cancel (m:Int) 1))) (rL (.lst _) hm')) ac bC) (nm _ rfl (by exact e2) rfl) (.ge _ _) (decide_eq_false (Int.not_le.mpr up)))))
end
end
noncomputable section
open PySem
noncomputable def og:Ss:=
 (.cons (.ite (.and (.cons (.cmp .Gt (.var "_law_k") (.int 0)) (.cons (.or (.cons (.cmp .GtE (.var "_law_before") (.var "_law_bits")) (.cons (.cmp .Eq (.slc (.var "_law_bits") .omit (.blt .len (.cons (.var "_law_before") .nil))) (.var "_law_before")) .nil))) .nil))) (.cons (.ret (.bool false))
 .nil) .nil)
 (.cons (.ite (.and (.cons (.cmp .NotEq (.var "_law_bits") (.str [])) (.cons (.cmp .LtE (.mth .get (.var "_law_heads") (.cons (.slc (.var "_law_bits") .omit (.neg (.int 1))) (.cons (.int 0) .nil))) (.var "_law_bound_here")) .nil))) (.cons (.ret (.bool false))
 .nil) .nil)
 (.cons (.asg "_law_share" (.bin .Add (.var "_law_share") (.idx (.list (.cons (.int 256) (.cons (.int 128) (.cons (.int 64) (.cons (.int 32) (.cons (.int 16) (.cons (.int 8) (.cons (.int 4) (.cons (.int 2) (.cons (.int 1) .nil)))))))))) (.blt .len (.cons (.var "_law_bits") .nil)))))
 (.cons (.ex (.mth .extend (.var "_law_found") (.cons (.idx (.idx (.var "_law_rooms") (.var "_law_k")) (.int 1)) .nil)))
 .nil))))
noncomputable def dr:Ss:=
 (.cons (.asg "_law_heads" .dict)
 (.cons (.for_ "_law_one" (.var "_law_plain") (.cons (.asg "_law_told" (.call "_law_signs" (.cons (.idx (.var "_law_one") (.int 0)) .nil)))
 (.cons (.for_ "_law_k" (.blt .range (.cons (.int 9) .nil)) (.cons (.asgSub (.var "_law_heads") (.slc (.var "_law_told") .omit (.var "_law_k")) (.bin .Add (.mth .get (.var "_law_heads") (.cons (.slc (.var "_law_told") .omit (.var "_law_k")) (.cons (.int 0) .nil))) (.int 1)))
 .nil))
 .nil)))
 (.cons (.asg "_law_found" (.list .nil))
 (.cons (.asg "_law_share" (.int 0))
 (.cons (.for_ "_law_k" (.blt .range (.cons (.blt .len (.cons (.var "_law_rooms") .nil)) .nil)) (.cons (.asg "_law_bits" (.idx (.idx (.var "_law_rooms") (.var "_law_k")) (.int 0)))
 (.cons (.asg "_law_before" (.idx (.idx (.var "_law_rooms") (.blt .max (.cons (.int 0) (.cons (.bin .Sub (.var "_law_k") (.int 1)) .nil)))) (.int 0)))
 og)))
 (.cons (.ret (.and (.cons (.cmp .Eq (.var "_law_share") (.int 256)) (.cons (.cmp .Eq (.blt .sorted (.cons (.var "_law_found") .nil)) (.var "_law_plain")) .nil))))
 .nil))))))
section
variable {C:Cx} {k:Nat} {H:List HO}
noncomputable def lkD (kvs:List (List Nat×V)) (p:List Nat):V:=(kvs.lookup p).getD (.int 0)
theorem qA {k p:List Nat} (v:V) (h:p≠k): ∀ kvs:List (List Nat×V),(kvs.map fun q=>if q.1=k then (q.1,v) else q).lookup p=kvs.lookup p
 | []=>rfl
 | (a,u)::r=>by
  have ih:=qA v h r
  rw [List.map_cons]
  by_cases e:a=k
  ·subst e
   rw [if_pos rfl,List.lookup_cons,List.lookup_cons,beq_eq_false_iff_ne.mpr h]; exact ih
  ·rw [if_neg e,List.lookup_cons,List.lookup_cons,ih]
theorem qB {k:List Nat} (v:V): ∀ kvs:List (List Nat×V),k∈kvs.map (·.1)→(kvs.map fun q=>if q.1=k then (q.1,v) else q).lookup k=some v
 | (a,u)::r,h=>by
  rw [List.map_cons]
  by_cases e:a=k
  ·subst e
   rw [if_pos rfl,List.lookup_cons_self]
  ·rw [if_neg e,List.lookup_cons,beq_eq_false_iff_ne.mpr (Ne.symm e)]
   rcases List.mem_cons.mp h with q | q
   ·exact absurd q.symm e
   ·exact qB v r q
theorem zu (k p:List Nat) (v:V) (kvs:List (List Nat×V)):lkD (jU k v kvs) p=if p=k then v else lkD kvs p:=by
 unfold lkD jU
 by_cases h:k∈kvs.map (·.1)
 ·rw [if_pos h]
  by_cases e:p=k
  ·rw [e,qB v kvs h,if_pos rfl]; rfl
  ·rw [qA v e,if_neg e]
 ·rw [if_neg h,List.lookup_append]
  by_cases e:p=k
  ·rw [e,if_pos rfl,List.lookup_cons_self,List.lookup_eq_none_iff.mpr fun q hq=>bne_iff_ne.mpr fun z=>h (List.mem_map.mpr ⟨q,hq,z.symm⟩)]; rfl
  ·rw [if_neg e,List.lookup_cons,beq_eq_false_iff_ne.mpr e]
   exact congrArg (fun o=>Option.getD o (V.int 0)) (Option.or_none)
theorem qD (k:List Nat) (v:V) (kvs:List (List Nat×V)):(jU k v kvs).length≤kvs.length+1:=by
 unfold jU
 split
 ·rw [List.length_map]; exact Nat.le_succ _
 ·rw [List.length_append]; exact Nat.le_refl _
theorem qy {k p:List Nat} {v:V} {kvs:List (List Nat×V)} (h:p=k∨p∈kvs.map (·.1)):p∈(jU k v kvs).map (·.1):=by
 unfold jU
 split
 ·rename_i hk
  have hp:p∈kvs.map (·.1):=h.elim (fun e=>e▸hk) id
  obtain ⟨q,h1,h2⟩:=List.mem_map.mp hp
  rw [List.map_map]
  refine List.mem_map.mpr ⟨q,h1,?_⟩
  show (if q.1=k then (q.1,v) else q).1=p
  split
  ·exact h2
  ·exact h2
 ·rw [List.map_append]
  exact h.elim (fun e=>List.mem_append.mpr (.inr (List.mem_singleton.mpr e))) fun q=>List.mem_append.mpr (.inl q)
noncomputable def qu (b:Bool):Nat:=if b then 1 else 0
theorem oV {kvs:List (List Nat×V)} {l:Ts} {w:List Nat} {m:Nat} (h: ∀ p,lkD kvs p=.int (((at_ p l).length+qu (p.isPrefixOf w && decide (p.length < m)):Nat):Int)) (hm:m≤w.length):
  lkD kvs (w.take m)=.int ((at_ (w.take m) l).length:Nat)∧∀ p,lkD (jU (w.take m) (.int (((at_ (w.take m) l).length:Nat)+1)) kvs) p=.int (((at_ p l).length+qu (p.isPrefixOf w && decide (p.length < m+1)):Nat):Int):=by
 have hl:(w.take m).length=m:=List.length_take_of_le hm
 have pre:(w.take m).isPrefixOf w=true:=List.isPrefixOf_iff_prefix.mpr (List.take_prefix _ _)
 constructor
 ·rw [h,hl,decide_eq_false (Nat.lt_irrefl m),Bool.and_false]; rfl
 ·intro p
  rw [zu]
  by_cases e:p=w.take m
  ·rw [if_pos e,e,pre,hl,decide_eq_true (Nat.lt_succ_self m)]; rfl
  ·rw [if_neg e,h]
   cases q:p.isPrefixOf w with
   | false=>rfl
   | true=>
    have q':=List.prefix_iff_eq_take.mp (List.isPrefixOf_iff_prefix.mp q)
    have ne:p.length≠m:=fun z=>e (z▸q')
    rw [show decide (p.length < m+1)=decide (p.length < m) from decide_eq_decide.mpr ⟨fun z=>Nat.lt_of_le_of_ne (Nat.le_of_lt_succ z) ne,fun z=>Nat.lt_succ_of_lt z⟩]
theorem wD (p:List Nat) {ts:Ts} {i:Nat} (hi:i < ts.length):(at_ p (ts.take (i+1))).length=(at_ p (ts.take i)).length+qu (p.isPrefixOf (sgn ts[i].1)):=by
 rw [at_,List.take_succ_eq_append_getElem hi,List.filter_append,List.length_append]
 refine congrArg (_+ ·) ?_
 cases q:p.isPrefixOf (sgn ts[i].1) with
 | true=>rw [List.filter_cons_of_pos (by exact q)]; rfl
 | false=>rw [List.filter_cons_of_neg (by rw [q]; exact Bool.false_ne_true)]; rfl
theorem su: ∀ {n:Nat},n≤8→([V.int 256,.int 128,.int 64,.int 32,.int 16,.int 8,.int 4,.int 2,.int 1]:List V)[((n:Nat):Int).toNat]?= some (.int ((2 ^ (8 - n):Nat):Int))
 | 0,_=>rfl
 | 1,_=>rfl
 | 2,_=>rfl
 | 3,_=>rfl
 | 4,_=>rfl
 | 5,_=>rfl
 | 6,_=>rfl
 | 7,_=>rfl
 | 8,_=>rfl
theorem pM {α β:Type} (f:α→List β) (l:List α) (m:Nat):((l.take m).flatMap f).length≤(l.flatMap f).length:=by
 have:((l.take m++l.drop m).flatMap f).length=(l.flatMap f).length:=by rw [List.take_append_drop]
 rw [List.flatMap_append,List.length_append] at this
 exact this▸Nat.le_add_right _ _
theorem kx {rs:List Rm} {m:Nat} (h:m < rs.length):Idx H (.lst (rs.map aH)) (.int m) (aH rs[m]):=
 .seq (.lst _) (Int.natCast_nonneg m) (by rw [Int.toNat_natCast,List.getElem?_map,List.getElem?_eq_getElem h]; rfl)
structure rO (σ:String→Option V) (n b:Nat) (ts:Ts):Prop where
 heads:σ "_law_heads" =some (.loc n)
 rooms:σ "_law_rooms" =some (.lst ((ae b ts).map aH))
 plain:σ "_law_plain" =some (.lst (ts.map pr))
 bnd:σ "_law_bound_here" =some (.int b)
theorem qL {b:Nat} {ts:Ts} (g:Stk b ts) {σ:String→Option V} {kvs:List (List Nat×V)} (hk: ∀ p,lkD kvs p=.int ((at_ p ts).length:Nat)) {m:Nat} (hm:m < (ae b ts).length) {xs:List V} (hx:xs.length≤256) {sm:Nat}
  (k1:σ "_law_k" =some (.int m)) (k2:σ "_law_bits" =some (.str (ae b ts)[m].1)) (k3:σ "_law_before" =some (.str ((ae b ts)[m - 1]'(Nat.lt_of_le_of_lt (Nat.sub_le m 1) hm)).1)) (e2:σ "_law_found" =some (.loc (H.length+1))) (e3:σ "_law_share" =some (.int sm)) (v:rO σ H.length b ts) {Q':Flow→St→Prop}
  (hQ: ∀ σ':String→Option V,σ' "_law_found" =some (.loc (H.length+1))→σ' "_law_share" =some (.int ((sm+2 ^ (8 - (ae b ts)[m].1.length):Nat):Int))→rO σ' H.length b ts→Q' .next ⟨σ',H++[.dictS kvs]++[.list (xs++(ae b ts)[m].2.map pr)]⟩):
  wSs (Calls C k) C.glo og ⟨σ,H++[.dictS kvs]++[.list xs]⟩ Q' noX:=by
 have xm:(ae b ts)[m]∈ae b ts:=List.getElem_mem hm
 have ro:=g.room xm
 refine aG (st₁:=⟨σ,H++[.dictS kvs]++[.list xs]⟩) ?c1 (aG (st₁:=⟨σ,H++[.dictS kvs]++[.list xs]⟩) ?c2 (aD (af (aa e3) (ai (aM (aE ac (aE ac (aE ac (aE ac (aE ac (aE ac (aE ac (aE ac (aJ ac))))))))) .lst) (ay (aJ (aa k2)) (.len (.str _))) (.seq (.lst _) (Int.natCast_nonneg _) (su ro.1))) (.add _ _))
  (iZ (qZ (aa (by exact e2)) tu (aJ (ai (ai (aa (by exact v.rooms)) (aa (by exact k1)) (kx hm)) ac aK)) tu ?len) (br ?q))))
 case c1=>
  cases m with
  | zero=>exact cv (iP (ag (aa k1) ac (.gt _ _) rfl))
  | succ m=>
   have k3:σ "_law_before" =some (.str ((ae b ts)[m]'(Nat.lt_of_succ_lt hm)).1):=k3
   have lf:=List.pairwise_iff_getElem.mp (la (b:=b) 8 [] ts) m (m+1) (Nat.lt_of_succ_lt hm) hm (Nat.lt_succ_self m)
   exact cv (dt (ag (aa k1) ac (.gt _ _) (decide_eq_true (Int.ofNat_lt.mpr (Nat.succ_pos m)))) (iP (gn (fv (ag (aa k3) (aa k2) (.geS _ _) (decide_eq_false (List.not_le.mpr lf.lt))) (fv (ag (bJ (aa k2) rfl (ay (aJ (aa k3)) (.len (.str _))) (.str _)) (aa k3) (.eq (.self _) (.self _) rfl rfl) (by
    rw [dZ,bU]; exact decide_eq_false fun e=>lf.not_pre (List.prefix_iff_eq_take.mpr e.symm) (List.prefix_refl _))) dn)))))
 case c2=>
  rcases my (b:=b) 8 [] ts rfl (js _) _ xm with e | ⟨p,c,e,_,hb⟩
  ·have k2:σ "_law_bits" =some (.str []):=k2.trans (congrArg (fun l=>some (V.str l)) e)
   exact cv (iP (ag (aa k2) aI (.ne (.self _) (.self _) rfl rfl) (by rw [bZ]; rfl)))
  ·have k2:σ "_law_bits" =some (.str (p++[c])):=k2.trans (congrArg (fun l=>some (V.str l)) e)
   exact cv (dt (ag (aa k2) aI (.ne (.self _) (.self _) rfl rfl) (by rw [dZ,decide_eq_false (List.append_ne_nil_of_right_ne_nil _ (List.cons_ne_nil _ _))]; rfl)) (iP (ag (bw (io (aa v.heads) (.get tv) (cz (bw (bJ (aa k2) rfl (zG ac) (.str _)) (v':=.str p) (congrArg V.str (sr p c))) ac) (.get tv)) (hk p)) (aa v.bnd) (.le _ _) (decide_eq_false fun q=>Nat.not_le.mpr hb (Int.ofNat_le.mp q)))))
 case len=>
  rw [List.length_map]
  exact Nat.lt_of_le_of_lt (Nat.add_le_add hx ro.2.1) (by decide)
 case q=>
  show Q' .next ⟨_,(H++[HO.dictS kvs]++[HO.list xs]).set (H.length+1) (.list (xs++(ae b ts)[m].2.map pr))⟩
  rw [Ey]
  exact hQ _ (by exact e2) rfl ⟨by exact v.heads,by exact v.rooms,by exact v.plain,by exact v.bnd⟩
theorem lr (F:bc C "_law_rooms_hold" ["_law_rooms", "_law_plain", "_law_bound_here"] dr) (hz:ar H) {b:Nat} {ts:Ts} (g:Stk b ts) (Gs: ∀ (H:List HO) (n:Int),Calls C k "_law_signs" [.int n] H (.ok (.str (sgn n))) H):
  Calls C (k+1) "_law_rooms_hold" [.lst ((ae b ts).map aH),.lst (ts.map pr),.int b] H (.ok (.bool true)) H:=by
 have tl:=ny g.ok
 refine ao F rfl (aD km ?_)
 refine cW (fun i st=>∃ kvs,st.H=H++[.dictS kvs]∧kvs.length≤9*i∧(∀ p,lkD kvs p=.int ((at_ p (ts.take i)).length:Nat))∧rO st.s H.length b ts) (aa rfl) (.lst _) ⟨[],rfl,Nat.le_refl _,fun p=>rfl,⟨rfl,rfl,rfl,rfl⟩⟩ ?_ ?_
 ·rintro i w ⟨s,H'⟩ hw ⟨kvs,e1,hl,hk,v⟩ Q' hQ
  have e1:H'=_:=e1
  subst e1
  obtain ⟨hi,rfl⟩:=cr hw
  have w8:=(hJ ts[i].1).1
  have nx:=fun p=>wD p hi
  generalize hsg:sgn ts[i].1=w at*
  refine aD (ah (v:=.str w) (aJ (ai (aa rfl) ac bC)) (by rw [← hsg]; exact Gs _ _)) ?_
  refine cW (fun m st=>∃ kvs,st.H=H++[.dictS kvs]∧kvs.length≤9*i+m∧(∀ p,lkD kvs p=.int (((at_ p (ts.take i)).length+qu (p.isPrefixOf w && decide (p.length < m)):Nat):Int))∧st.s "_law_told" =some (.str w)∧rO st.s H.length b ts) (ay (aJ ac) (.range1 _)) (bI (n:=9) (by decide)) ⟨kvs,rfl,hl,fun p=>?_,rfl,⟨by exact v.heads,by exact v.rooms,by exact v.plain,by exact v.bnd⟩⟩ ?_ ?_
  ·rw [hk,decide_eq_false (Nat.not_lt_zero _),Bool.and_false]; rfl
  ·rintro m u ⟨s,H'⟩ hu ⟨kvs,e1,hl,hk,e2,v⟩ Q' hQ
   have e1:H'=_:=e1
   subst e1
   obtain ⟨hm,rfl⟩:=eA hu
   obtain ⟨q1,q2⟩:=oV hk (by rw [w8]; exact Nat.le_of_lt_succ hm)
   have lp:=qD (w.take m) (.int (((at_ (w.take m) (ts.take i)).length:Nat)+1)) kvs
   refine qd (af (bw (io (aa (by exact v.heads)) (.get cj) (cz (bw (bJ (aa (by exact e2)) rfl (aa rfl) (.str _)) (v':=.str (w.take m)) (congrArg V.str (bU _ _))) ac) (.get cj)) q1) ac (.add _ _)) (aa (by exact v.heads)) (bw (bJ (aa (by exact e2)) rfl (aa rfl) (.str _)) (v':=.str (w.take m)) (congrArg V.str (bU _ _))) cj (by exact lin [_,_,i,m] [(9,.v 1,.n 256),(9,.a (.v 2) (.n 1),.v 1),(1,.v 0,.a (.m 9 (.v 2)) (.v 3)),(1,.a (.v 3) (.n 1),.n 9)] 1 (.a (.v 0) (.n 1)) (.n 1000000) rfl tl hi hl hm) (br (hQ _ ⟨_,?_,by exact lin [_,i,m,_] [(1,.v 3,.a (.m 9 (.v 1)) (.v 2)),(1,.v 0,.a (.v 3) (.n 1))] 1 (.v 0) (.a (.m 9 (.v 1)) (.a (.v 2) (.n 1))) rfl hl lp,q2,by exact e2,⟨by exact v.heads,by exact v.rooms,by exact v.plain,by exact v.bnd⟩⟩).1)
   exact fo
  ·rintro ⟨s,H'⟩ ⟨kvs,e1,hl,hk,e2,v⟩
   have e1:H'=_:=e1
   subst e1
   have hl:kvs.length≤9*i+9:=hl
   have hk: ∀ p,lkD kvs p=.int (((at_ p (ts.take i)).length+qu (p.isPrefixOf w && decide (p.length < 9)):Nat):Int):=hk
   refine br (hQ _ ⟨kvs,rfl,hl,fun p=>?_,v⟩).1
   rw [hk,nx]
   cases q:p.isPrefixOf w with
   | false=>rfl
   | true=>
    have:=(List.isPrefixOf_iff_prefix.mp q).length_le
    rw [decide_eq_true (by exact lin [_,_] [(1,.v 1,.n 8),(1,.v 0,.v 1)] 1 (.a (.v 0) (.n 1)) (.n 9) rfl (l_e w8) this)]; rfl
 ·rintro ⟨s,H'⟩ ⟨kvs,e1,hl,hk,v⟩
  have e1:H'=_:=e1
  subst e1
  rw [List.length_map,List.take_length] at hk
  have pm:=ij (b:=b) 8 [] ts rfl
  refine aD (aM aL .loc) (aD ac ?_)
  refine cW (fun m st=>st.H=H++[.dictS kvs]++[.list ((((ae b ts).take m).flatMap (·.2)).map pr)]∧st.s "_law_found" =some (.loc (H.length+1))∧st.s "_law_share" =some (.int ((((ae b ts).take m).map fun x=>2 ^ (8 - x.1.length)).sum:Nat))∧rO st.s H.length b ts)
   (ay (aJ (ay (aJ (aa (by exact v.rooms))) (.len (.seq (.lst _))))) (.range1 _)) (bI (n:=((ae b ts).map aH).length) (by rw [List.length_map]; exact Nat.le_trans (ca b ts) (by decide))) ⟨rfl,?_,rfl,⟨by exact v.heads,by exact v.rooms,by exact v.plain,by exact v.bnd⟩⟩ ?_ ?_
  ·show some (V.loc (H++[_]).length)=_
   rw [List.length_append]; rfl
  ·rintro m u ⟨s,H'⟩ hu ⟨e1,e2,e3,v⟩ Q' hQ
   have e1:H'=_:=e1
   subst e1
   obtain ⟨hm,rfl⟩:=eA hu
   rw [List.length_map] at hm
   have tf:=pM (fun x:Rm=>x.2) (ae b ts) m
   have nz:ar (H++[HO.dictS kvs]++[.list ((((ae b ts).take m).flatMap (·.2)).map pr)]):=mj hz (fun _=>HO.noConfusion) fun _=>HO.noConfusion
   refine aD (ai (ai (aa (by exact v.rooms)) (aa rfl) (kx hm)) ac bd) (aD (ai (ai (aa (by exact v.rooms)) (bw (ay (cz ac (af (aa rfl) ac (.sub _ _))) (.max2 _ _ nz)) (v':=.int ((m - 1:Nat):Int)) (congrArg V.int ?_)) (kx (Nat.lt_of_le_of_lt (Nat.sub_le m 1) hm))) ac bd)
    (qL g hk hm ?_ rfl rfl rfl (by exact e2) (by exact e3) ⟨by exact v.heads,by exact v.rooms,by exact v.plain,by exact v.bnd⟩ fun σ' h1 h2 h3=>(hQ _ ⟨?_,h1,?_,h3⟩).1))
   ·lia
   ·rw [List.length_map]
    exact Nat.le_trans tf (by rw [show (ae b ts).flatMap (fun x=>x.2)=(dY b 8 [] ts).flatMap (·.2) from rfl,pm.length_eq]; exact tl)
   ·show H++[HO.dictS kvs]++[_]=_
    rw [List.take_succ_eq_append_getElem hm,List.flatMap_append,List.flatMap_singleton,List.map_append]
   ·rw [List.take_succ_eq_append_getElem hm,List.map_append,List.sum_append_nat,List.map_singleton,List.sum_singleton]; exact h2
  ·rintro ⟨s,H'⟩ ⟨e1,e2,e3,v⟩
   rw [List.length_map,List.length_range,List.length_map,List.take_length] at e1 e3
   have e1:H'=_:=e1
   subst e1
   have sh:=jt (b:=b) 8 [] ts rfl
   have e3:s "_law_share" =some (.int ((2 ^ 8:Nat):Int)):=e3.trans (congrArg (fun z:Nat=>some (V.int z)) sh)
   refine aQ (cv (dt (ag (aa e3) ac aW (bZ (.int 256))) (dt (ag (cu (aJ (aa e2)) (.sorted (ys:=ts.map pr) (.loc tu) (.duos (duos _)) ?_ (pm.symm.map pr) (eH g.ok.up)) .lst) (aa v.plain) (.eq (.self _) (.self _) (yk _) (yk _)) (bZ _)) kA))) ⟨rfl,trivial,?_⟩
   ·rw [List.length_map,show (ae b ts).flatMap (fun x=>x.2)=(dY b 8 [] ts).flatMap (·.2) from rfl,pm.length_eq]; exact Nat.le_trans tl (by decide)
   ·show (H++[_]++[_]).take H.length=H
    rw [List.append_assoc,List.take_left]
end
end
noncomputable section
open PySem
noncomputable def cQ:Ss:=
 (.cons (.asg "_law_known" .dict)
 (.cons (.for_ "_law_room_here" (.var "_law_rooms") (.cons (.asgSub (.var "_law_known") (.idx (.var "_law_room_here") (.int 0)) (.bool true))
 .nil))
 (.cons (.ite (.or (.cons (.not (.isi (.var "_law_board") "list")) (.cons (.cmp .NotEq (.blt .len (.cons (.var "_law_board") .nil)) (.idx (.list (.cons (.int 1) (.cons (.int 2) (.cons (.int 4) (.cons (.int 8) (.cons (.int 16) (.cons (.int 32) (.cons (.int 64) (.cons (.int 128) (.cons (.int 256) .nil)))))))))) (.var "_law_depth"))) .nil))) (.cons (.ret (.bool false))
 .nil) .nil)
 (.cons (.for_ "_law_at" (.blt .range (.cons (.blt .len (.cons (.var "_law_board") .nil)) .nil)) (.cons (.ite (.or (.cons (.not (.isi (.idx (.var "_law_board") (.var "_law_at")) "str")) (.cons (.cmp .NotIn (.idx (.var "_law_board") (.var "_law_at")) (.var "_law_known")) .nil))) (.cons (.ret (.bool false))
 .nil) .nil)
 (.cons (.asg "_law_told" (.str []))
 (.cons (.asg "_law_left" (.var "_law_at"))
 (.cons (.for_ "_law_k" (.blt .range (.cons (.var "_law_depth") .nil)) (.cons (.asg "_law_told" (.bin .Add (.idx (.str [48,49]) (.bin .Mod (.var "_law_left") (.int 2))) (.var "_law_told")))
 (.cons (.asg "_law_left" (.bin .FloorDiv (.var "_law_left") (.int 2)))
 .nil)))
 (.cons (.ite (.cmp .NotEq (.slc (.var "_law_told") .omit (.blt .len (.cons (.idx (.var "_law_board") (.var "_law_at")) .nil))) (.idx (.var "_law_board") (.var "_law_at"))) (.cons (.ret (.bool false))
 .nil) .nil)
 .nil))))))
 (.cons (.ret (.bool true))
 .nil)))))
noncomputable def iJ:Ss:=
 (.cons (.asg "_law_rooms" (.mcall "Store.rooms" "rooms" (.var "_law_store") .nil))
 (.cons (.ite (.not (.isi (.var "_law_rooms") "list")) (.cons (.ret (.bool false))
 .nil) .nil)
 (.cons (.ite (.cmp .NotEq (.compIf (.var "_law_room_here") "_law_room_here" (.var "_law_rooms") (.not (.call "_law_is_room" (.cons (.var "_law_room_here") (.cons (.var "_law_bound_here") .nil))))) (.list .nil)) (.cons (.ret (.bool false))
 .nil) .nil)
 (.cons (.ite (.not (.call "_law_rooms_hold" (.cons (.var "_law_rooms") (.cons (.var "_law_plain") (.cons (.var "_law_bound_here") .nil))))) (.cons (.ret (.bool false))
 .nil) .nil)
 (.cons (.asg "_law_depth" (.mcall "Store.depth" "depth" (.var "_law_store") .nil))
 (.cons (.ite (.or (.cons (.not (.call "_law_whole" (.cons (.var "_law_depth") .nil))) (.cons (.cmp .NotEq (.var "_law_depth") (.blt .max (.cons (.compX (.blt .len (.cons (.idx (.var "_law_room_here") (.int 0)) .nil)) "_law_room_here" (.var "_law_rooms")) .nil))) .nil))) (.cons (.ret (.bool false))
 .nil) .nil)
 (.cons (.ret (.call "_law_board_holds" (.cons (.mcall "Store.board" "board" (.var "_law_store") .nil) (.cons (.var "_law_rooms") (.cons (.var "_law_depth") .nil)))))
 .nil)))))))
section
variable {C:Cx} {k:Nat} {H:List HO}
theorem yi: ∀ {n:Nat},n≤8→([V.int 1,.int 2,.int 4,.int 8,.int 16,.int 32,.int 64,.int 128,.int 256]:List V)[((n:Nat):Int).toNat]?= some (.int ((2 ^ n:Nat):Int))
 | 0,_=>rfl
 | 1,_=>rfl
 | 2,_=>rfl
 | 3,_=>rfl
 | 4,_=>rfl
 | 5,_=>rfl
 | 6,_=>rfl
 | 7,_=>rfl
 | 8,_=>rfl
theorem zY {c a:Nat} (h:c=48∨c=49):([48,49]:List Nat)[(((2*a+(c - 48):Nat):Int) % 2).toNat]?= some c∧((2*a+(c - 48):Nat):Int) / 2=(a:Nat):=by
 rcases h with rfl | rfl
 ·rw [show ((2*a+(48 - 48):Nat):Int) % 2=0 by lia]; exact ⟨rfl,by lia⟩
 ·rw [show ((2*a+(49 - 48):Nat):Int) % 2=1 by lia]; exact ⟨rfl,by lia⟩
theorem ti {rs:List Rm} {w:List Nat} (h: ∃ x∈rs,x.1 <+: w):(∃ x∈rs,x.1=cP rs w)∧cP rs w <+: w:=by
 obtain ⟨x,h1,h2⟩:=h
 unfold cP
 cases e:rs.filter fun x=>x.1.isPrefixOf w with
 | nil=>
  have:x∈rs.filter fun x=>x.1.isPrefixOf w:=List.mem_filter.mpr ⟨h1,List.isPrefixOf_iff_prefix.mpr h2⟩
  rw [e] at this; cases this
 | cons y r=>
  have hy:y∈rs.filter fun x=>x.1.isPrefixOf w:=by rw [e]; exact List.mem_cons_self
  obtain ⟨q1,q2⟩:=List.mem_filter.mp hy
  exact ⟨⟨y,q1,rfl⟩,List.isPrefixOf_iff_prefix.mp q2⟩
structure rR (σ:String→Option V) (n b:Nat) (ts:Ts):Prop where
 known:σ "_law_known" =some (.loc n)
 rooms:σ "_law_rooms" =some (.lst ((ae b ts).map aH))
 board:σ "_law_board" =some (.lst ((bL (ae b ts)).map .str))
 depth:σ "_law_depth" =some (.int (az (ae b ts):Nat))
theorem lu (b:Nat) (ts:Ts):((bL (ae b ts)).map V.str).length=2 ^ az (ae b ts):=by rw [List.length_map,bL,List.length_map,dW]
theorem kv (F:bc C "_law_board_holds" ["_law_board", "_law_rooms", "_law_depth"] cQ) {b:Nat} {ts:Ts} (g:Stk b ts):
  Calls C (k+1) "_law_board_holds" [.lst ((bL (ae b ts)).map .str),.lst ((ae b ts).map aH),.int (az (ae b ts):Nat)] H (.ok (.bool true)) H:=by
 have d8:=kq g
 have p8:2 ^ az (ae b ts)≤2 ^ 8:=Nat.pow_le_pow_right (by decide) d8
 refine ao F rfl (aD km ?_)
 refine cW (fun i st=>∃ kvs:List (List Nat×V),st.H=H++[.dictS kvs]∧kvs.length≤i∧(∀ x∈(ae b ts).take i,x.1∈kvs.map fun q:List Nat×V=>q.1)∧rR st.s H.length b ts) (aa rfl) (.lst _) ⟨[],rfl,Nat.le_refl _,(fun x h=>nomatch h),⟨rfl,rfl,rfl,rfl⟩⟩ ?_ ?_
 ·rintro i w ⟨s,H'⟩ hw ⟨kvs,e1,hl,hk,v⟩ Q' hQ
  have e1:H'=_:=e1
  subst e1
  obtain ⟨hi,rfl⟩:=cr hw
  have lp:=qD (ae b ts)[i].1 (.bool true) kvs
  have rl:=ca b ts
  refine qd mD (aa (by exact v.known)) (ai (aa rfl) ac bd) cj (by exact lin [kvs.length,i,(ae b ts).length] [(1,.v 0,.v 1),(1,.a (.v 1) (.n 1),.v 2),(1,.v 2,.n 256)] 1 (.a (.v 0) (.n 1)) (.n 1000000) rfl hl hi rl) (br (hQ _ ⟨_,?_,Nat.le_trans lp (Nat.succ_le_succ hl),fun x hx=>?_,⟨by exact v.known,by exact v.rooms,by exact v.board,by exact v.depth⟩⟩).1)
  ·exact fo
  ·rw [List.take_succ_eq_append_getElem hi] at hx
   rcases List.mem_append.mp hx with q | q
   ·exact qy (.inr (hk x q))
   ·rw [List.mem_singleton.mp q]; exact qy (.inl rfl)
 ·rintro ⟨s,H'⟩ ⟨kvs,e1,hl,hk,v⟩
  have e1:H'=_:=e1
  subst e1
  rw [List.length_map,List.take_length] at hk
  refine aG (gn (fv (cJ (cM (aa (by exact v.board)) (.seq (.lst _)) rfl)) (fv (ag (ay (aJ (aa (by exact v.board))) (.len (.seq (.lst _)))) (ai (aM (aE ac (aE ac (aE ac (aE ac (aE ac (aE ac (aE ac (aE ac (aJ ac))))))))) .lst) (aa (by exact v.depth)) (.seq (.lst _) (Int.natCast_nonneg _) (yi d8))) bz (by rw [lu]; exact fw)) dn))) ?_
  refine cW (fun m st=>st.H=H++[.dictS kvs]∧rR st.s H.length b ts) (ay (aJ (ay (aJ (aa (by exact v.board))) (.len (.seq (.lst _))))) (.range1 _)) (bI (n:=((bL (ae b ts)).map V.str).length) (by rw [lu]; exact Nat.le_trans p8 (by decide))) ⟨rfl,⟨by exact v.known,by exact v.rooms,by exact v.board,by exact v.depth⟩⟩ ?_ fun st e=>aQ mD ⟨rfl,trivial,by rw [e.1,List.take_left]⟩
  rintro m u ⟨s,H'⟩ hu ⟨e1,v⟩ Q' hQ
  have e1:H'=_:=e1
  subst e1
  obtain ⟨hm,rfl⟩:=eA hu
  rw [List.length_map,bL,List.length_map] at hm
  have wm:=List.getElem_mem hm
  have wn:=dU _ m _ (List.getElem?_eq_getElem hm)
  obtain ⟨wl,wb⟩:=cX _ _ wm
  obtain ⟨⟨x,x1,x2⟩,bp⟩:=ti (jm wm)
  have hx:=hk x x1
  rw [x2] at hx
  have ix: ∀ H:List HO,Idx H (.lst ((bL (ae b ts)).map .str)) (.int m) (.str (cP (ae b ts) (aU (az (ae b ts)))[m])):=fun H=>.seq (.lst _) (Int.natCast_nonneg m) (by rw [Int.toNat_natCast,bL,List.map_map,List.getElem?_map,List.getElem?_eq_getElem hm]; rfl)
  generalize (aU (az (ae b ts)))[m]=w at*
  generalize cP (ae b ts) w=y at*
  refine aG (gn (fv (cJ (cM (ai (aa (by exact v.board)) (aa rfl) (ix _)) (.str _) rfl)) (fv (ag (ai (aa (by exact v.board)) (aa rfl) (ix _)) (aa (by exact v.known)) (.nin (.keyS cj)) (by rw [decide_eq_true hx]; rfl)) dn))) (aD aI (aD (aa rfl) ?_))
  refine cW (fun l st=>st.H=H++[.dictS kvs]∧st.s "_law_told" =some (.str (w.drop (az (ae b ts) - l)))∧st.s "_law_left" =some (.int (hV (w.take (az (ae b ts) - l)):Nat))∧st.s "_law_at" =some (.int m)∧rR st.s H.length b ts) (ay (aJ (aa (by exact v.depth))) (.range1 _)) (bI (n:=az (ae b ts)) (Nat.le_trans d8 (by decide))) ⟨rfl,?_,?_,rfl,⟨by exact v.known,by exact v.rooms,by exact v.board,by exact v.depth⟩⟩ ?_ ?_
  ·rw [Nat.sub_zero,← wl,List.drop_length]; rfl
  ·rw [Nat.sub_zero,← wl,List.take_length,wn]; rfl
  ·rintro l u ⟨s,H'⟩ hu ⟨e1,e2,e3,e4,v⟩ Q' hQ
   have e1:H'=_:=e1
   subst e1
   obtain ⟨hl,rfl⟩:=eA hu
   obtain ⟨e,he⟩: ∃ e,az (ae b ts) - l=e+1:=⟨az (ae b ts) - l - 1,by exact l_a ((l_g (az (ae b ts) - l) (1))) ((l_d (li [az (ae b ts) - l,l,az (ae b ts)] [([2,0],[3]),([3],[1,2])] [0] [1] rfl hl (l_g (az (ae b ts)) (l)))))⟩
   have he':az (ae b ts) - (l+1)=e:=by exact l_a (li [az (ae b ts) - (l+1),e,az (ae b ts) - l,az (ae b ts),l] [([3],[2,0]),([4],[3,5]),([1,5,0],[4])] [1] [2] rfl (l_e he) (l_g (az (ae b ts)) (l)) (l_d (hl))) (li [e,az (ae b ts) - (l+1),az (ae b ts) - l,l,az (ae b ts)] [([1,0],[3]),([3,4],[5]),([5],[2,4,0])] [1] [2] rfl (l_s he) (l_d (li [l,az (ae b ts)] [([1,0],[2])] [1] [2] rfl hl)) (l_g (az (ae b ts)) (l+1)))
   have hw:e < w.length:=by exact li [e,w.length,az (ae b ts),az (ae b ts) - l,l] [([3],[2]),([1,0],[4]),([4,5],[3])] [1,0] [2] rfl (l_s wl) (l_s he) (l_d (li [l,az (ae b ts)] [([1,0],[2])] [1] [2] rfl hl))
   rw [he] at e2 e3
   rw [List.take_succ_eq_append_getElem hw,gz] at e3
   rw [he'] at hQ
   obtain ⟨q1,q2⟩:=zY (a:=hV (w.take e)) (wb _ (List.getElem_mem hw))
   refine aD (af (ai aI (af (aa (by exact e3)) ac (.mod (by decide))) (.str (Int.emod_nonneg _ (by decide)) q1)) (aa (by exact e2)) (.cat ?_)) (aD (bw (af (aa (by exact e3)) ac (.div (by decide) (by decide))) (congrArg V.int q2)) (br (hQ _ ⟨rfl,?_,rfl,by exact e4,⟨by exact v.known,by exact v.rooms,by exact v.board,by exact v.depth⟩⟩).1))
   ·rw [List.length_singleton,List.length_drop]; exact lin [w.length - (e+1),az (ae b ts),w.length,e] [(1,.v 1,.n 8),(1,.v 2,.v 1),(1,.a (.v 0) (.a (.v 3) (.n 1)),.v 2)] 1 (.a (.n 1) (.v 0)) (.n 16000000) rfl d8 (l_e wl) (l_d (hw))
   ·rw [List.drop_eq_getElem_cons hw]; rfl
  ·rintro ⟨s,H'⟩ ⟨e1,e2,e3,e4,v⟩
   have e1:H'=_:=e1
   subst e1
   rw [List.length_map,List.length_range,Nat.sub_self,List.drop_zero] at e2
   exact aG (ag (bw (bJ (aa (by exact e2)) rfl (ay (aJ (ai (aa (by exact v.board)) (aa (by exact e4)) (ix _))) (.len (.str _))) (.str _)) (v':=.str y) (congrArg V.str ((bU _ _).trans (List.prefix_iff_eq_take.mp bp).symm))) (ai (aa (by exact v.board)) (aa (by exact e4)) (ix _)) (.ne (.self _) (.self _) rfl rfl) (by rw [bZ]; rfl)) (br (hQ _ ⟨rfl,⟨by exact v.known,by exact v.rooms,by exact v.board,by exact v.depth⟩⟩).1)
theorem hM {b:Nat} {ts:Ts} (g:Stk b ts) {x:Rm} (hx:x∈ae b ts):ua b x:=by
 have ro:=g.room hx
 have h3:=qN 8 [] ts rfl (js _) x hx
 refine ⟨ro.1,ro.2.2.2,nQ g.b1 8 [] ts rfl (js _) g.ok x hx,⟨?_,fun t ht=>(ro.2.2.1 t ht).1⟩,fun t ht=>?_⟩
 ·rw [h3]; exact g.ok.up.filter _
 ·rw [h3] at ht; exact List.isPrefixOf_iff_prefix.mp (List.mem_filter.mp ht).2
theorem wp (F:bc C "_law_shape" ["_law_store", "_law_bound_here", "_law_plain"] iJ) (hz:ar H) {i j b:Nat} {ts:Ts} (S:cp H i j b ts)
  (Gr:Calls C k "Store.rooms" [.loc i] H (.ok (.lst ((ae b ts).map aH))) H) (Gi: ∀ x∈ae b ts,Calls C k "_law_is_room" [aH x,.int b] H (.ok (.bool true)) H)
  (Gh:Calls C k "_law_rooms_hold" [.lst ((ae b ts).map aH),.lst (ts.map pr),.int b] H (.ok (.bool true)) H) (Gd:Calls C k "Store.depth" [.loc i] H (.ok (.int (az (ae b ts):Nat))) H) (Gw: ∀ n:Int,Calls C k "_law_whole" [.int n] H (.ok (.bool true)) H)
  (Gb:Calls C k "Store.board" [.loc i] H (.ok (.lst ((bL (ae b ts)).map .str))) H) (Go:Calls C k "_law_board_holds" [.lst ((bL (ae b ts)).map .str),.lst ((ae b ts).map aH),.int (az (ae b ts):Nat)] H (.ok (.bool true)) H):
  Calls C (k+1) "_law_shape" [.loc i,.int b,.lst (ts.map pr)] H (.ok (.bool true)) H:=by
 obtain ⟨x,h1,h2⟩:=eU (xs:=ae b ts) (ez 8 [] ts)
 have vw:fY H (.lst ((ae b ts).map fun x=>V.int (x.1.length:Nat))) (((ae b ts).map fun x=>(x.1.length:Int)).map .int):=by rw [List.map_map]; exact .lst _
 exact ao F rfl (aD (aV (aa rfl) S.at rfl aL Gr) (aG (cJ (cM (aa rfl) (.seq (.lst _)) rfl)) (aG (ag (kl (g:=aH) (rs:=ae b ts) (aa rfl) (.lst _) (fun x hx=>cJ (ah (cz (aa rfl) (aa rfl)) (Gi x hx)))) (aM aL .lst) (.ne (.self _) (.self _) rfl rfl) rfl) (aG (cJ (ah (kj (aa rfl) (aa rfl) (aa rfl)) Gh)) (aD (aV (aa rfl) S.at rfl aL Gd)
  (aG (gn (fv (cJ (ah (aJ (aa rfl)) (Gw _))) (fv (ag (aa rfl) (ay (aJ (dg (g:=aH) (q:=fun x=>V.int (x.1.length:Nat)) (rs:=ae b ts) (aa rfl) (.lst _) (fun x _=>ay (aJ (ai (aa rfl) ac bd)) (.len (.str _))) .lst))
   (.max1 hz vw (List.mem_map.mpr ⟨x,h1,congrArg Int.ofNat h2⟩) fun n hn=>by obtain ⟨y,h3,rfl⟩:=List.mem_map.mp hn; exact Int.ofNat_le.mpr (gL y h3))) bz fw) dn))) (aQ (ah (kj (aV (aa rfl) S.at rfl aL Gb) (aa rfl) (aa rfl)) Go) (au rfl trivial))))))))
end
end
noncomputable section
open PySem
noncomputable def rJ:Ss:=
 (.cons (.ex (.mcall "Store.look" "look" (.var "_law_store") (.cons (.var "_law_name_here") .nil)))
 (.cons (.ex (.mcall "Store.find" "find" (.var "_law_store") (.cons (.var "_law_name_here") .nil)))
 (.cons (.ite (.or (.cons (.cmp .NotEq (.mcall "Store.size" "size" (.var "_law_store") .nil) (.blt .len (.cons (.var "_law_plain") .nil))) (.cons (.not (.call "_law_shape" (.cons (.var "_law_store") (.cons (.var "_law_bound_here") (.cons (.var "_law_plain") .nil))))) .nil))) (.cons (.ret (.bool false))
 .nil) .nil)
 (.cons (.asg "_law_held" (.list (.cons (.mcall "Store.rooms" "rooms" (.var "_law_store") .nil) (.cons (.mcall "Store.board" "board" (.var "_law_store") .nil) (.cons (.mcall "Store.things" "things" (.var "_law_store") .nil) .nil)))))
 (.cons (.asg "_law_kept" (.list (.cons (.compX (.tup (.cons (.idx (.var "_law_room_here") (.int 0)) (.cons (.blt .list (.cons (.idx (.var "_law_room_here") (.int 1)) .nil)) .nil))) "_law_room_here" (.idx (.var "_law_held") (.int 0))) (.cons (.blt .list (.cons (.idx (.var "_law_held") (.int 1)) .nil)) (.cons (.blt .list (.cons (.idx (.var "_law_held") (.int 2)) .nil)) .nil)))))
 (.cons (.asg "_law_plain" (.call "_law_fill" (.cons (.var "_law_store") (.cons (.slc (.var "_law_deeds_here") (.var "_law_cut") .omit) (.cons (.var "_law_plain") .nil)))))
 (.cons (.ex (.mcall "Store.things" "things" (.var "_law_store") .nil))
 (.cons (.ite (.or (.cons (.cmp .NotEq (.mcall "Store.size" "size" (.var "_law_store") .nil) (.blt .len (.cons (.var "_law_plain") .nil))) (.cons (.not (.call "_law_shape" (.cons (.var "_law_store") (.cons (.var "_law_bound_here") (.cons (.var "_law_plain") .nil))))) .nil))) (.cons (.ret (.bool false))
 .nil) .nil)
 (.cons (.ret (.cmp .Eq (.var "_law_held") (.var "_law_kept")))
 .nil)))))))))
noncomputable def od:Ss:=
 (.cons (.asg "_law_bound_here" (.call "_law_bound" (.cons (.call "_law_cell_at" (.cons (.var "_law_script") (.cons (.int 0) .nil))) .nil)))
 (.cons (.asg "_law_store" (.make (.cons (.var "_law_bound_here") .nil)))
 (.cons (.asg "_law_deeds_here" (.call "_law_deeds" (.cons (.var "_law_script") .nil)))
 (.cons (.asg "_law_cut" (.bin .Mod (.bin .FloorDiv (.call "_law_cell_at" (.cons (.var "_law_script") (.cons (.int 0) .nil))) (.int 256)) (.bin .Add (.blt .len (.cons (.var "_law_deeds_here") .nil)) (.int 1))))
 (.cons (.asg "_law_plain" (.call "_law_fill" (.cons (.var "_law_store") (.cons (.slc (.var "_law_deeds_here") .omit (.var "_law_cut")) (.cons (.list .nil) .nil)))))
 (.cons (.asg "_law_name_here" (.bin .Mod (.bin .FloorDiv (.call "_law_cell_at" (.cons (.var "_law_script") (.cons (.int 1) .nil))) (.int 37)) (.int 256)))
 (.cons (.ite (.cmp .Eq (.bin .Mod (.call "_law_cell_at" (.cons (.var "_law_script") (.cons (.int 1) .nil))) (.int 3)) (.int 1)) (.cons (.asg "_law_store" (.call "read" (.cons (.call "written" (.cons (.var "_law_store") .nil)) .nil)))
 .nil) .nil)
 rJ)))))))
section
variable {C:Cx} {k:Nat} {H:List HO}
structure G13 (C:Cx) (k:Nat):Prop where
 fill: ∀ {H:List HO} {i j b:Nat} {ts:Ts} {ds:List cH},ar H→Stk b ts→cp H i j b ts→(∀ d∈ds,DOk d)→Calls C k "_law_fill" [.loc i,.lst (ds.map dV),.lst (ts.map pr)] H (.ok (.lst ((bA ts ds).map pr))) (H.set j (stA b (bA ts ds)))
 things: ∀ {H:List HO} {i j b:Nat} {ts:Ts},cp H i j b ts→Calls C k "Store.things" [.loc i] H (.ok (.lst (ts.map pr))) H
 rooms: ∀ {H:List HO} {i j b:Nat} {ts:Ts},ar H→Stk b ts→cp H i j b ts→Calls C k "Store.rooms" [.loc i] H (.ok (.lst ((ae b ts).map aH))) H
 board: ∀ {H:List HO} {i j b:Nat} {ts:Ts},ar H→Stk b ts→cp H i j b ts→Calls C k "Store.board" [.loc i] H (.ok (.lst ((bL (ae b ts)).map .str))) H
 look: ∀ {H:List HO} {i j b:Nat} {ts:Ts} {n:Int},ar H→Stk b ts→cp H i j b ts→0≤n→n≤255→∃ u,Calls C k "Store.look" [.loc i,.int n] H (.ok u) H
 find: ∀ {H:List HO} {i j b:Nat} {ts:Ts} {n:Int},cp H i j b ts→0≤n→n≤255→Calls C k "Store.find" [.loc i,.int n] H (.ok (gc ts n)) H
 size: ∀ {H:List HO} {i j b:Nat} {ts:Ts},cp H i j b ts→Calls C k "Store.size" [.loc i] H (.ok (.int (ts.length:Nat))) H
 shape: ∀ {H:List HO} {i j b:Nat} {ts:Ts},ar H→Stk b ts→cp H i j b ts→Calls C k "_law_shape" [.loc i,.int b,.lst (ts.map pr)] H (.ok (.bool true)) H
 written: ∀ {H:List HO} {i j b:Nat} {ts:Ts},ar H→Stk b ts→cp H i j b ts→Calls C k "written" [.loc i] H (.ok (.str (iW b ts))) H
 read: ∀ {H:List HO} {b:Nat} {ts:Ts},ar H→Stk b ts→Calls C k "read" [.str (iW b ts)] H (.ok (.loc (H.length+1))) (H++[stA b ts]++[.obj H.length])
theorem uX (b:Nat) (ts:Ts):pl 6 (.lst [.lst ((ae b ts).map aH),.lst ((bL (ae b ts)).map .str),.lst (ts.map pr)])=true:=by
 show (false || List.all [V.lst ((ae b ts).map aH),.lst ((bL (ae b ts)).map .str),.lst (ts.map pr)] (pl 5))=true
 rw [Bool.false_or,List.all_cons,List.all_cons,List.all_cons,List.all_nil,Bool.and_true]
 show ((false || List.all ((ae b ts).map aH) (pl 4)) && ((false || List.all ((bL (ae b ts)).map V.str) (pl 4)) && (false || List.all (ts.map pr) (pl 4))))=true
 rw [Bool.false_or,Bool.false_or,Bool.false_or,List.all_map,List.all_map,List.all_map,Bool.and_eq_true,Bool.and_eq_true,List.all_eq_true,List.all_eq_true,List.all_eq_true]
 refine ⟨fun x _=>?_,fun _ _=>rfl,fun _ _=>rfl⟩
 show (false || List.all [V.str x.1,.lst (x.2.map pr)] (pl 3))=true
 rw [Bool.false_or,List.all_cons,List.all_cons,List.all_nil,Bool.and_true]
 show (true && (false || List.all (x.2.map pr) (pl 2)))=true
 rw [Bool.true_and,Bool.false_or,List.all_map,List.all_eq_true]; exact fun _ _=>rfl
theorem tq (g:G13 C k) {i j b:Nat} {p1:Ts} {ds:List cH} {ct:Nat} {σ:String→Option V} (hz:ar H) (g1:Stk b p1) (hd: ∀ d∈ds.drop ct,DOk d) (S:cp H i j b p1) (e1:σ "_law_store" =some (.loc i)) (e2:σ "_law_deeds_here" =some (.lst (ds.map dV))) (e3:σ "_law_cut" =some (.int ct)) (e4:σ "_law_bound_here" =some (.int b)) (e5:σ "_law_plain" =some (.lst (p1.map pr)))
  {n:Int} (e6:σ "_law_name_here" =some (.int n)) (n0:0≤n) (n1:n≤255):wSs (Calls C k) C.glo rJ ⟨σ,H⟩ (fun fl st=>oI fl=.bool true∧low ([]:List HO).length (.bool true)∧st.H.take ([]:List HO).length=[]) noX:=by
 obtain ⟨u,gl⟩:=g.look hz g1 S n0 n1
 have gp:=g.fill hz g1 S hd
 have o2:=jY (ds.drop ct) p1 g1.ok g1.vals hd
 have t2:slice (ds.map dV) (gk (ds.map dV).length (some (ct:Int))) (gF (ds.map dV).length none)=(ds.drop ct).map dV:=by rw [gw,List.map_drop]
 generalize bA p1 (ds.drop ct)=p2 at*
 have g2:Stk b p2:=⟨g1.b1,g1.b64,o2.1,o2.2⟩
 have S2:cp (H.set j (stA b p2)) i j b p2:=S.set
 have hz2:ar (H.set j (stA b p2)):=hZ hz fun _=>HO.noConfusion
 have ph:=uX b p1
 refine iZ (aV (aa e1) S.at rfl (aJ (aa e6)) gl) (iZ (aV (aa e1) S.at rfl (aJ (aa e6)) (g.find S n0 n1)) ?_)
 refine aG (gn (fv (ag (aV (aa e1) S.at rfl aL (g.size S)) (ay (aJ (aa e5)) (.len (.seq (.lst _)))) bz (by rw [List.length_map]; exact fw)) (fv (cJ (ah (kj (aa e1) (aa e4) (aa e5)) (g.shape hz g1 S))) dn))) ?_
 refine aD (aM (kj (aV (aa e1) S.at rfl aL (g.rooms hz g1 S)) (aV (aa e1) S.at rfl aL (g.board hz g1 S)) (aV (aa e1) S.at rfl aL (g.things S))) .lst) ?_
 refine aD (aM (kj (dg (g:=aH) (q:=aH) (rs:=ae b p1) (ai (aa rfl) ac (.seq (.lst _) (by decide) rfl)) (.lst _) (fun x _=>cg (cz (ai (aa rfl) ac bd) (cu (aJ (ai (aa rfl) ac aK)) (.list (.lst _)) .lst))) .lst)
  (cu (aJ (ai (aa rfl) ac (.seq (.lst _) (by decide) rfl))) (.list (.lst _)) .lst) (cu (aJ (ai (aa rfl) ac (.seq (.lst _) (by decide) rfl))) (.list (.lst _)) .lst)) .lst) ?_
 refine aD (iq (kj (aa (by exact e1)) (bw (eS (aa (by exact e2)) rfl (aa (by exact e3)) (.seq (.lst _) .lst)) (congrArg V.lst t2)) (aa (by exact e5))) gp) ?_
 refine iZ (aV (aa (by exact e1)) S2.at rfl aL (g.things S2)) ?_
 refine aG (gn (fv (ag (aV (aa (by exact e1)) S2.at rfl aL (g.size S2)) (ay (aJ (aa rfl)) (.len (.seq (.lst _)))) bz (by rw [List.length_map]; exact fw)) (fv (cJ (ah (kj (aa (by exact e1)) (aa (by exact e4)) (aa rfl)) (g.shape hz2 g2 S2))) dn))) ?_
 exact aQ (ag (aa rfl) (aa rfl) (.eq (.self _) (.self _) ph ph) (bZ _)) ⟨rfl,trivial,rfl⟩
theorem kR (b:Nat) (p:Ts):ar [stA b p,.obj 0]:=fun c q=>by
 simp only [List.mem_cons,List.not_mem_nil,or_false,stA] at q
 rcases q with q | q<;>cases q
theorem vR (b:Nat) (p q:Ts):ar [stA b p,.obj 0,stA b q,.obj 2]:=fun c h=>by
 simp only [List.mem_cons,List.not_mem_nil,or_false,stA] at h
 rcases h with h | h | h | h<;>cases h
theorem wu {ns:List Int} (F:bc C "law" ["_law_script"] od) (g:G13 C k) (hn:ns.length≤63)
  (Gc: ∀ (H:List HO) (j:Nat),Calls C k "_law_cell_at" [.lst (ns.map .int),.int j] H (.ok (.int (ns.getD j 0))) H) (Gb: ∀ (H:List HO) (c:Int),Calls C k "_law_bound" [.int c] H (.ok (.int (fR c))) H)
  (Gi: ∀ {H:List HO} {i j:Nat} {b:Int},H[i]?= some (.obj j)→H[j]?= some (.attrs [])→1≤b→b≤64→Calls C k "Store.__init__" [.loc i,.int b] H (.ok .none) (H.set j (stA b [])))
  (Gd: ∀ {H:List HO},ar H→Calls C k "_law_deeds" [.lst (ns.map .int)] H (.ok (.lst ((nW ns).map dV))) H):
  Calls C (k+1) "law" [.lst (ns.map .int)] [] (.ok (.bool true)) []:=by
 obtain ⟨q1,q2⟩:=rE (ns.getD 0 0)
 have gb:=Gb [] (ns.getD 0 0)
 generalize fR (ns.getD 0 0)=b at*
 have i1:=Gi (H:=[HO.attrs [],.obj 0]) (i:=1) (j:=0) (b:=b) rfl rfl (Int.ofNat_le.mpr q1) (Int.ofNat_le.mpr q2)
 have dok:=sY ns
 have gd:=Gd (kR b [])
 generalize nW ns=ds at*
 have pos:(0:Int) < ((ds.map dV).length:Nat)+1:=Int.ofNat_lt.mpr (Nat.succ_pos _)
 have c0:=Int.emod_nonneg (ns.getD 0 0 / 256) (Int.ne_of_gt pos)
 obtain ⟨ct,hct⟩: ∃ ct:Nat,ns.getD 0 0 / 256 % (((ds.map dV).length:Nat)+1)=(ct:Int):=⟨_,(Int.toNat_of_nonneg c0).symm⟩
 have hd1: ∀ d∈ds.take ct,DOk d:=fun d q=>dok d (List.mem_of_mem_take q)
 have hd2: ∀ d∈ds.drop ct,DOk d:=fun d q=>dok d (List.mem_of_mem_drop q)
 have o1:=jY (ds.take ct) [] nv.1 nv.2 hd1
 have g1:Stk b (bA [] (ds.take ct)):=⟨q1,q2,o1.1,o1.2⟩
 have t1:slice (ds.map dV) (gk (ds.map dV).length none) (gF (ds.map dV).length (some (ct:Int)))=(ds.take ct).map dV:=by rw [bU,List.map_take]
 have f1:=g.fill (kR b []) ⟨q1,q2,nv.1,nv.2⟩ (⟨rfl,rfl⟩:cp [stA b [],.obj 0] 1 0 b []) hd1
 generalize bA [] (ds.take ct)=p1 at*
 have S1:cp [stA b p1,.obj 0] 1 0 b p1:=⟨rfl,rfl⟩
 have n0:=Int.emod_nonneg (ns.getD 1 0 / 37) (show (256:Int)≠0 by decide)
 have n1:=Int.le_of_lt_add_one (Int.emod_lt_of_pos (ns.getD 1 0 / 37) (show (0:Int) < 255+1 by decide))
 refine ao F rfl (aD (ah (aJ (ah (cz (aa rfl) ac) (Gc _ 0))) gb) (aD (qX (aJ (aa rfl)) i1) (aD (ah (aJ (aa rfl)) gd) ?_)))
 refine aD (bw (af (af (ah (cz (aa rfl) ac) (Gc _ 0)) ac (.div (by decide) (by decide))) (af (ay (aJ (aa rfl)) (.len (.seq (.lst _)))) ac (.add _ _)) (.mod pos)) (congrArg V.int hct)) ?_
 refine aD (iq (kj (aa rfl) (bw (bJ (aa rfl) rfl (aa rfl) (.seq (.lst _) .lst)) (congrArg V.lst t1)) (aM aL .lst)) f1) ?_
 refine aD (af (af (ah (cz (aa rfl) ac) (Gc _ 1)) ac (.div (by decide) (by decide))) ac (.mod (by decide))) ?_
 by_cases h:ns.getD 1 0 % 3=1
 ·refine dx (ag (af (ah (cz (aa rfl) ac) (Gc _ 1)) ac (.mod (by decide))) ac aW (decide_eq_true h)) (aD (iq (aJ (ah (aJ (aa rfl)) (g.written (kR _ _) g1 S1))) (g.read (kR _ _) g1)) (br (aX ?_)))
  exact tq g (vR b p1 p1) g1 hd2 (⟨rfl,rfl⟩:cp [stA b p1,.obj 0,stA b p1,.obj 2] 3 2 b p1) rfl rfl rfl rfl rfl rfl n0 n1
 ·refine aG (ag (af (ah (cz (aa rfl) ac) (Gc _ 1)) ac (.mod (by decide))) ac aW (decide_eq_false h)) ?_
  exact tq g (kR b p1) g1 hd2 S1 rfl rfl rfl rfl rfl rfl n0 n1
end
end
noncomputable section
open PySem PySem.W PyProof.Rows
theorem sQ {l:OpenLaw} {n:Nat} (hmost:l.most=some n) {args:List WData} (hpre:l.row.claim.pre args=true): ∃ ns:List Int,args=[.list (ns.map .int)]∧ns.length≤n:=by
 obtain ⟨h1,h2⟩:=pre_splitW hpre
 obtain ⟨d,r,rfl,hd,hr⟩:=hasAllW_cons h1
 have:=hasAllW_nil hr
 subst this
 obtain ⟨xs,rfl,hxs⟩:=hasW_list hd
 have key: ∀ xs:List WData,WShape.hasItems l.row.records xs .int=true→∃ ns:List Int,xs=ns.map .int:=by
  intro xs
  induction xs with
  | nil=>intro _; exact ⟨[],rfl⟩
  | cons x xs ih=>
   intro h
   have h:(WShape.has l.row.records x .int && WShape.hasItems l.row.records xs .int)=true:=h
   obtain ⟨i,rfl⟩:=hasW_int (Bool.and_eq_true_iff.mp h).1
   obtain ⟨ns,rfl⟩:=ih (Bool.and_eq_true_iff.mp h).2
   exact ⟨i::ns,rfl⟩
 obtain ⟨ns,rfl⟩:=key xs hxs
 refine ⟨ns,rfl,?_⟩
 have h2:WTm.holds l.row.records l.pre { args:=[.list (ns.map .int)]}=true:=h2
 unfold OpenLaw.pre at h2
 have h3:=(holds_andW h2).1
 rw [hmost] at h3
 have h4:=condW_of h3 (w_not (w_lt w_lit (w_len_list (w_arg rfl))))
 rw [Bool.not_eq_true',decide_eq_false_iff_not,List.length_map] at h4
 exact Int.ofNat_le.mp (Int.not_lt.mp h4)
noncomputable def Ac (v:Value):Option { a:Addr // v=.ref a }:=match v with
 | .ref a=>some ⟨a,rfl⟩
 | _=>none
noncomputable def Fk (v:Value):Option { i:Int // ∃ t,v=.int i t }:=match v with
 | .int i t=>some ⟨i,t,rfl⟩
 | _=>none
noncomputable def oFn (d:Data):Option { fd:FuncData // d=.func fd }:=match d with
 | .func fd=>some ⟨fd,rfl⟩
 | _=>none
noncomputable def bSt (b:FuncBody):Option { ss:List Stmt // b=.stmts ss }:=match b with
 | .stmts ss=>some ⟨ss,rfl⟩
 | _=>none
noncomputable def EY (K:Frag) (fd:FuncData) (ps:List String):Bool:=
 codeIn K fd.code fd.qualname && fd.closure.isEmpty && Nat.beq fd.globals mainGlobals && Nat.beq fd.builtins builtinsNs &&
 fd.scope.kind == .function && !fd.scope.isCoroutine && !fd.scope.isGenerator && (ps.all fun p=>kd fd.scope p == some .local || kd fd.scope p == some .cell) &&
 (fd.scope.names.all fun p=>!(p.2 == .free)) && decide ps.Nodup
noncomputable def glo? (K:Frag) (f:String):Option Value:=(nsIn K mainGlobals f).bind id
noncomputable def xw (K:Frag) (f:String):Option Addr:=(glo? K f).bind fun v=>(Ac v).map (·.1)
noncomputable def FX (K:Frag) (cls:Addr) (m:String):Option Addr:=((findIn K (.ref cls) (m:Str)).bind id).bind fun v=>(Ac v).map (·.1)
noncomputable def faK (K:Frag) (cls:Addr) (ms:List (String×String)) (f:String):Option Addr:=(ms.find? fun p=>p.2 == f).elim (xw K f) fun p=>FX K cls p.1
noncomputable def BR (K:Frag) (fa:String→Option Addr) (f:String):Option (Addr×Obj):=(fa f).bind fun a=>(K.lookup a).map fun o=>(a,o)
noncomputable def zD (K:Frag) (fa:String→Option Addr) (f:String):Option FuncData:=(BR K fa f).bind fun x=>(oFn x.2.data).map (·.1)
noncomputable def DF (K:Frag) (fa:String→Option Addr) (f:String) (ps:List String):Bool:=(BR K fa f).any fun x=>(oFn x.2.data).any fun fd=>EY K fd.1 ps
noncomputable def tT (K:Frag) (fa:String→Option Addr) (N:Nm) (n:Nat) (f:String):Option Ss:=(zD K fa f).bind fun fd=>(bSt fd.body).map fun b=>cSs N n fd.scope b.1
theorem DA {P:List Value→Prop} {n:Nat} (h: ∀ a r,r.length=n→P (a::r)) (l:List Value) (e:l.length=n+1):P l:=by
 cases l with
 | nil=>cases e
 | cons a r=>exact h a r (Nat.succ.inj e)
theorem FY {P:List Value→Prop} (h:P []) (l:List Value) (e:l.length=0):P l:=by rw [List.eq_nil_of_length_eq_zero e]; exact h
theorem iS {P:List Value→Prop} (h: ∀ a,P [a]): ∀ l,l.length=1→P l:=DA fun a=>FY (P:=fun r=>P (a::r)) (h a)
theorem nH {P:List Value→Prop} (h: ∀ a b,P [a,b]): ∀ l,l.length=2→P l:=DA fun a=>iS (P:=fun r=>P (a::r)) (h a)
theorem vV {P:List Value→Prop} (h: ∀ a b c,P [a,b,c]): ∀ l,l.length=3→P l:=DA fun a=>nH (P:=fun r=>P (a::r)) (h a)
theorem bM {α:Type} {o:Option α} {p:α→Bool} (h:o.any p=true): ∃ x,o=some x∧p x=true:=by
 cases o with
 | none=>cases h
 | some x=>exact ⟨x,rfl,h⟩
section
variable {prog:Program} {w:World} {s:Shared} {mg mb:Str→Option Value} {K:Frag}
noncomputable def zB (gl:List (String×Int)) (x:String):Option V:=(gl.lookup x).map .int
noncomputable def tJ (K:Frag) (gl:List (String×Int)):Bool:=gl.all fun p=>(glo? K p.1).any fun v=>(Fk v).any fun j=>p.2 == j.1
noncomputable def zz (K:Frag) (fa:String→Option Addr) (f:String):Bool:=(zD K fa f).isSome && (fa f).any fun a=>(xw K f).any fun b=>Nat.beq a b
noncomputable def fnT (K:Frag) (a:Addr):Bool:=typeIn K (.ref a) == some (.type "function")
noncomputable def tN (K:Frag) (cls:Addr) (fa:String→Option Addr) (ms:List (String×String)) (ats:List String):Bool:=
 (xw K "Store").any (fun a=>Nat.beq a cls) && makesIn K cls && (fa "Store.__init__").any (fun a=>findIn K (.ref cls) "__init__" == some (some (.ref a)) && fnT K a) &&
 findIn K (.ref cls) "__getattribute__" == some (some (.builtin "object.__getattribute__")) && findIn K (.ref cls) "__getattr__" == some none && findIn K (.ref cls) "__setattr__" == some (some (.builtin "object.__setattr__")) &&
 plainOver K cls && hasDictIn K cls && ms.all (fun p=>(fa p.2).any fun a=>findIn K (.ref cls) (p.1:Str) == some (some (.ref a)) && fnT K a && keepIn K (.ref a)) && keepIn K (.ref cls) && ats.all (fun x=>findIn K (.ref cls) (x:Str) == some none)
  && mr K cls
noncomputable def zX (K:Frag):Bool:=bltNames.all fun f=>(nsIn K mainGlobals f).any fun o=>o.isNone
theorem nR {f:String} {v:Value} (e:glo? K f=some v):nsIn K mainGlobals f=some (some v):=by
 obtain ⟨o,h1,h2⟩:=Option.bind_eq_some_iff.mp e
 rw [h1]; exact congrArg some h2
theorem mz {f:String} {a:Addr} (e:xw K f=some a):nsIn K mainGlobals f=some (some (.ref a)):=by
 obtain ⟨v,h1,h2⟩:=Option.bind_eq_some_iff.mp e
 obtain ⟨b,h3,rfl⟩:=Option.map_eq_some_iff.mp h2
 exact b.2▸nR h1
theorem wf {fa:String→Option Addr} {f:String} {x:Addr×Obj} (e:BR K fa f=some x):fa f=some x.1∧K.lookup x.1=some x.2:=by
 obtain ⟨a,h1,h2⟩:=Option.bind_eq_some_iff.mp e
 obtain ⟨o,h3,rfl⟩:=Option.map_eq_some_iff.mp h2
 exact ⟨h1,h3⟩
theorem qz {gl:List (String×Int)} {x:String} {i:Int} (e:gl.lookup x=some i):(x,i)∈gl:=by
 induction gl with
 | nil=>cases e
 | cons p r ih=>
  rw [show (p::r).lookup x=if (x == p.1)=true then some p.2 else r.lookup x by rw [List.lookup]; cases x == p.1<;>rfl] at e
  by_cases q:(x == p.1)=true
  ·rw [if_pos q] at e; cases e
   rw [show x=p.1 from beq_iff_eq.mp q]; exact List.mem_cons_self
  ·rw [if_neg q] at e; exact List.mem_cons_of_mem _ (ih e)
theorem qO (X:K.In s.heap) (G:s.heap.Ns mainGlobals mg) {gl:List (String×Int)} (h:tJ K gl=true) (x:String) (v:V) (e:zB gl x=some v): ∃ i t,v=.int i∧mg x=some (.int i t):=by
 obtain ⟨i,ei,rfl⟩:=Option.map_eq_some_iff.mp e
 obtain ⟨v,h1,h2⟩:=bM (List.all_eq_true.mp h _ (qz ei))
 obtain ⟨⟨j,t,hj⟩,_,h3⟩:=bM h2
 have h3:i=j:=beq_iff_eq.mp h3
 subst h3
 exact ⟨i,t,rfl,hj▸mg_of X G (nR h1)⟩
theorem sT {fa:String→Option Addr} (X:K.In s.heap) (G:s.heap.Ns mainGlobals mg) {f:String} (h:zz K fa f=true): ∃ a o fd,fa f=some a∧mg (f:Str)=some (.ref a)∧s.heap.get? a=some o∧o.data=.func fd:=by
 obtain ⟨h,h'⟩:=bN h
 obtain ⟨fd,h⟩:=Option.isSome_iff_exists.mp h
 obtain ⟨x,h1,h2⟩:=Option.bind_eq_some_iff.mp h
 obtain ⟨d,_,rfl⟩:=Option.map_eq_some_iff.mp h2
 obtain ⟨a,e1,h'⟩:=bM h'
 obtain ⟨b,e2,h'⟩:=bM h'
 obtain rfl:a=b:=Nat.eq_of_beq_eq_true h'
 obtain ⟨q1,q2⟩:=wf h1
 rw [e1] at q1
 obtain rfl:a=x.1:=Option.some.inj q1
 exact ⟨x.1,x.2,d.1,e1,mg_of X G (mz e2),X _ _ q2,d.2⟩
theorem ru {fa:String→Option Addr} {cls:Addr} {ms:List (String×String)} {ats:List String} (X:K.In s.heap) (G:s.heap.Ns mainGlobals mg) (h:tN K cls fa ms ats=true):wI s.heap mg K cls ms ats fa:=by
 obtain ⟨h,h12⟩:=bN h
 obtain ⟨h,h11⟩:=bN h
 obtain ⟨h,h10⟩:=bN h
 obtain ⟨h,h9⟩:=bN h
 obtain ⟨h,h8⟩:=bN h
 obtain ⟨h,h7⟩:=bN h
 obtain ⟨h,h6⟩:=bN h
 obtain ⟨h,h5⟩:=bN h
 obtain ⟨h,h4⟩:=bN h
 obtain ⟨h,h3⟩:=bN h
 obtain ⟨h1,h2⟩:=bN h
 obtain ⟨a,e1,h1⟩:=bM h1
 obtain rfl:a=cls:=Nat.eq_of_beq_eq_true h1
 obtain ⟨b,e3,h3⟩:=bM h3
 exact ⟨X,mg_of X G (mz e1),h2,⟨b,e3,beq_iff_eq.mp (bN h3).1,beq_iff_eq.mp (bN h3).2⟩,⟨beq_iff_eq.mp h4,beq_iff_eq.mp h5⟩,beq_iff_eq.mp h6,h7,h8,fun p hp=>by
  obtain ⟨c,e,q⟩:=bM (List.all_eq_true.mp h9 p hp)
  exact ⟨c,e,beq_iff_eq.mp (bN (bN q).1).1,beq_iff_eq.mp (bN (bN q).1).2,(bN q).2⟩,h10,fun x hx=>beq_iff_eq.mp (List.all_eq_true.mp h11 x hx)
  ,h12
  ⟩
noncomputable def zE (K:Frag) (exs:List String) (c:String):Bool:=(glo? K c).any fun v=>(Ac v).any fun cls=>excIn K cls.1 xC "ValueError.__new__" && qV K cls.1 && kitOne K (.ref cls.1) (.type "ValueError") == some true &&
 exs.all fun c'=>(glo? K c').any fun v'=>(Ac v').any fun cls'=>kitOne K (.ref cls.1) (.ref cls'.1) == some (eC c' c) && (!eC c' c || eN K cls.1 cls'.1)
theorem wi {p:Program} {loose:List Str} (X:K.In s.heap) (T:TopRead p loose mg mb s.heap) {exs:List String} (h:exs.all (zE K exs)=true): ∀ c∈exs,∃ cls,rP s.heap mg exs c cls:=fun c hc=>by
 obtain ⟨v,e1,h1⟩:=bM (List.all_eq_true.mp h c hc)
 obtain ⟨cls,_,h1⟩:=bM h1
 simp only [Bool.and_eq_true,beq_iff_eq,List.all_eq_true] at h1
 obtain ⟨⟨⟨h1,h2⟩,h3⟩,h4⟩:=h1
 refine ⟨cls.1,own_of_in X T (cls.2▸nR e1) h1,K,X,h2,h3,fun c' hc'=>?_⟩
 obtain ⟨v',e2,h5⟩:=bM (h4 c' hc')
 obtain ⟨cls',_,h5⟩:=bM h5
 simp only [Bool.and_eq_true,beq_iff_eq,Bool.or_eq_true,Bool.not_eq_true'] at h5
 exact ⟨cls'.1,mg_of X T.g (cls'.2▸nR e2),h5.1,fun z=>h5.2.resolve_left fun y=>by rw [z] at y; cases y⟩
theorem nZ: ∀ f∈bltNames,bootBuiltins (f:Str)=some (eV f)∧(f:Str)≠("__name__" :Str):=by decide +kernel
noncomputable def FW (prog:Program) (w:World) (s:Shared) (mg mb:Str→Option Value) (K:Frag) (X:K.In s.heap) (G:s.heap.Ns mainGlobals mg) (B:s.heap.Ns builtinsNs mb) (nl:s.heap.NoLimit)
  (hb: ∀ n:Str,n≠("__name__" :Str)→mb n=bootBuiltins n) (fs:List String) (gl:List (String×Int)) (hg:tJ K gl=true) (cls:Addr) (ms:List (String×String)) (ats:List String) (fa:String→Option Addr) (hcl:(ms.isEmpty || tN K cls fa ms ats)=true) (hf:fs.all (zz K fa)=true) (hbl:zX K=true) (exs:List String) (hx: ∀ c∈exs,∃ cls,rP s.heap mg exs c cls):Cx where
 prog:=prog
 w:=w
 base:=s.heap
 os:=s.os
 mg:=mg
 mb:=mb
 g:=G
 b:=B
 nolimit:=nl
 glo:=zB gl
 hglo:=qO X G hg
 fns:=fs
 exs:=exs
 hexs:=hx
 fa:=fa
 hfns:=fun f h=>sT X G (List.all_eq_true.mp hf f h)
 K:=K
 cls:=cls
 meths:=ms
 ats:=ats
 hcls:=fun h=>ru X G ((Bool.or_eq_true_iff.mp hcl).resolve_left fun z=>h (List.isEmpty_iff.mp z))
 blts:=fun f h=>by
  obtain ⟨o,h1,h2⟩:=bM (List.all_eq_true.mp hbl f h)
  rw [Option.isNone_iff_eq_none.mp h2] at h1
  exact ⟨mg_none_of X G h1,by rw [hb _ (nZ f h).2]; exact (nZ f h).1⟩
theorem aq (C:Cx) (X:K.In C.base) {f:String} {ps:List String} {ss:Ss} {l:List String} {n:Nat} (h:DF K C.fa f ps=true) (hb: ∀ vals:List Value,vals.length=ps.length→(zD K C.fa f).map (fun fd=>bindArgs fd ⟨vals,[]⟩)=some (pure (lB ps vals)))
  (hc:tT K C.fa (C.nm l) n f=some ss):bc C f ps ss:=by
 obtain ⟨x,e1,h⟩:=bM (o:=BR K C.fa f) h
 obtain ⟨fd,e2,h⟩:=bM h
 have e3:zD K C.fa f=some fd.1:=by rw [zD,e1]; show (oFn x.2.data).map _=_; rw [e2]; rfl
 simp only [EY,Bool.and_eq_true,beq_iff_eq,Bool.not_eq_true',decide_eq_true_eq,List.isEmpty_iff,List.all_eq_true,Bool.or_eq_true] at h
 obtain ⟨⟨⟨⟨⟨⟨⟨⟨⟨h1,h3⟩,h4⟩,h5⟩,h6⟩,h7⟩,h8⟩,h15⟩,h16⟩,h17⟩:=h
 rw [tT,e3] at hc
 obtain ⟨b,_,hc⟩:=Option.map_eq_some_iff.mp (show (bSt fd.1.body).map _=some ss from hc)
 refine ⟨x.1,x.2,fd.1,b.1,⟨(wf e1).1,X _ _ (wf e1).2,fd.2,codeRec_of X h1,b.2,h3,Nat.eq_of_beq_eq_true h4,Nat.eq_of_beq_eq_true h5,h6,h7,h8,fun vals hl=>?_,h15,fun n e=>?_,h17,fun k=>hc▸uz n _ _⟩⟩
 ·have:=hb vals hl
  rw [e3] at this
  exact Option.some.inj this
 ·exact Bool.noConfusion ((show (NameKind.free == NameKind.free)=true from rfl).symm.trans (h16 _ (cm e)))
noncomputable def zr:Gh:=⟨fun _=>False,fun _=>False,fun _ h=>h,fun _=>False,fun _=>False,fun _ h=>h⟩
theorem vY {l:OpenLaw} {C:Cx} {k:Nat} {s₀ s₁:Shared} {args:List WData} {vals:List Value} {fa:Addr} {n:Nat} (hp:C.prog=l.row.prog) (hb:C.base=s₁.heap) (ho:C.os=s₁.os) (hg:s₁.gens= #[]) (hmost:l.most=some n) (hn:n≤1000)
  (hpre:l.row.claim.pre args=true) (hwl:WellAll C.w.params s₁.heap vals args) (hfa:C.fa "law" =some fa) (hk:k≤200)
  (law: ∀ ns:List Int,ns.length≤n→Calls C k "law" [.lst (ns.map .int)] [] (.ok (.bool true)) []):
  wpAny (model l.row.prog C.w) callerA (call (.ref fa) vals) (fun v s'=>GoodWG l.row.claim (classAt s₀.heap) (ExcName.means s₀.heap) args s₁ (.ok (.ret v)) s')
   (fun e s'=>GoodWG l.row.claim (classAt s₀.heap) (ExcName.means s₀.heap) args s₁ (.error e) s') s₁:=by
 obtain ⟨ns,rfl,hlen⟩:=sQ hmost hpre
 have I0:Inv C zr [] [] s₁:=⟨fun b o e=>by rw [← hb]; exact e,rfl,List.nodup_nil,(fun a h=>by cases h),(fun a h=>by cases h),(fun i a o h=>by simp at h),(fun a h=>by cases h),(fun i a o h=>by simp at h),(fun a h=>h.elim),(fun a h=>h.elim),(fun a h=>h.elim),(fun a h=>h.elim),(fun _ a h=>h.elim),hg,ho.symm⟩
 have hargs:aR s₁.heap [] (Nl zr [] []) [.lst (ns.map .int)] vals:=by
  cases hwl with
  | cons h1 h2=>
   cases h2
   cases h1 with
   | list ha hall=>
    refine .cons (.lst ⟨_,ha⟩ (fun q=>?_) (by simp [aA]; exact lin [_,n] [(1,.v 1,.n 1000),(1,.v 0,.v 1)] 1 (.v 0) (.n 16777216) rfl hn hlen) ?_) .nil
    ·rcases q with ⟨i,o,h,_⟩ | h
     ·simp at h
     ·exact h
    ·clear ha hpre
     rename_i vs
     have key: ∀ (ns:List Int) (vs:List Value),WellAll C.w.params s₁.heap vs (ns.map .int)→aR s₁.heap [] (Nl zr [] []) (ns.map .int) vs:=by
      intro ns
      induction ns with
      | nil=>intro vs h; cases h; exact .nil
      | cons i ns ih=>
       intro vs h
       cases h with
       | cons a b=>cases a; exact .cons (.int _ _) (ih _ b)
     exact key ns vs hall
 have hroom:bO (2*k) callerA zr:=⟨by show 1+claimMargin+2*k < 900; unfold claimMargin; exact lin [k] [(2,.v 0,.n 200)] 1 (.a (.a (.a (.n 1) (.n 300)) (.m 2 (.v 0))) (.n 1)) (.n 900) rfl hk,by show 4+4*(2*k) < 9000; exact lin [k] [(8,.v 0,.n 200)] 1 (.a (.a (.n 4) (.m 4 (.m 2 (.v 0)))) (.n 1)) (.n 9000) rfl hk,(fun v h=>by cases h),[],rfl,fun _ h=>by cases h⟩
 have hc:=law ns hlen callerA s₁ zr [] vals fa hroom I0 hargs hfa
 rw [show C.M=model l.row.prog C.w by rw [← hp]] at hc
 refine enter_call (codeAny_mono hc fun res s' p=>?_)
 refine GoodW.toG ?_
 cases res with
 | error e=>exact p.elim
 | ok fl=>
  cases fl with
  | next=>exact p.elim
  | brk=>exact p.elim
  | cont=>exact p.elim
  | ret mv=>
   obtain ⟨ρ',r,I',S⟩:=p
   cases r
   refine ⟨.inl ⟨_,.bool true,[],rfl,fun cls=>rfl,.bool true,?_,fun _=>⟨List.nodup_nil,fun a h=>by cases h⟩⟩,fun b o e=>I'.base b o (by rw [hb]; exact e),I'.os.trans ho,I'.gens⟩
   exact postW_of (show WShape.has l.row.records (.bool true) .bool=true by simp [WShape.has,WShape.arms]) (w_eq_bool (w_res rfl) w_lit) rfl
end
end
end Mine
set_option Elab.async false
set_option maxHeartbeats 0
namespace Mine
open PySem PySem.W PyProof.Rows
theorem oL (l:List Char):Str.ofString (String.ofList l)=⟨(l.map Char.toNat).toArray⟩:=Fast.ofString_ofList l
noncomputable abbrev TG:Type:=∀ (_ _ _ _ _ _ _ _ _ _ _ _ _ _ _ _ _ _ _ _ _ _ _ _ _ _ _ _ _ _ _ _ _ _ _ _ _ _ _ _ _ _ _ _ _ _ _ _ _ _ _ _ _ _ _ _ _ _ _ _ _ _ _ _ _ _ _ _ _ _ _ _ _ _ _ _ _ _ _ _ _ _ _ _ _ _ _ _ _ _ _ _ _ _ _ _ _ _ _ _ _ _ _ _ _ _ _ _ _ _ _ _ _ _ _ _ _ _ _ _ _ _ _ _ _ _ _ _ _ _ _ _ _ _ _ _ _ _ _ _ _ _ _ _ _ _ _ _ _ _ _ _ _ _ _ _ _ _ _ _ _:Str),Program
open Str in
structure PG (F:TG):Prop where
 h:PySem.Challenge.pw_uf050020_13=F (ofString "_law_is_thing") (ofString "_law_one") (ofString "isinstance") (ofString "tuple") (ofString "len") (ofString "_law_whole") (ofString "_law_is_room") (ofString "_law_room_here") (ofString "_law_bound_here") (ofString "_law_is_bits") (ofString "list") (ofString ".0") (ofString "_law_k") (ofString "range") (ofString "_law_signs") (ofString "fast") (ofString "_law_rooms_hold") (ofString "_law_rooms") (ofString "_law_plain") (ofString "_law_heads") (ofString "_law_told") (ofString "get") (ofString "_law_found") (ofString "_law_share") (ofString "_law_bits") (ofString "_law_before") (ofString "max") (ofString "") (ofString "extend") (ofString "sorted") (ofString "_law_board_holds") (ofString "_law_board") (ofString "_law_depth") (ofString "_law_known") (ofString "_law_at") (ofString "str") (ofString "_law_left") (ofString "01") (ofString "_law_shape") (ofString "_law_store") (ofString "rooms") (ofString "depth") (ofString "board") (ofString "law") (ofString "_law_script") (ofString "_law_bound") (ofString "_law_cell_at") (ofString "Store") (ofString "_law_deeds_here") (ofString "_law_deeds") (ofString "_law_cut") (ofString "_law_fill") (ofString "_law_name_here") (ofString "read") (ofString "written") (ofString "look") (ofString "find") (ofString "size") (ofString "_law_held") (ofString "things") (ofString "_law_kept") (ofString "_law_behind") (ofString "_law_deed") (ofString "put") (ofString "append") (ofString "_law_first") (ofString "_law_cell") (ofString "_law_many") (ofString "_law_value") (ofString "min") (ofString "_law_room") (ofString "_law_deeds_by") (ofString "_law_worth") (ofString "int") (ofString "take") (ofString "NoThing") (ofString "_law_sign") (ofString "0") (ofString "1") (ofString "_law_name") (ofString "_law_more") (ofString "_law_frame") (ofString "_law_kind") (ofString "_law_j") (ofString "store") (ofString "rows") (ofString "bound ") (ofString "bound") (ofString "room") (ofString "words") (ofString " ") (ofString "thing") (ofString "=") (ofString ":") (ofString "join") (ofString "\n") (ofString "number_of") (ofString "word") (ofString "most") (ofString "figures") (ofString "-") (ofString "NoStore") (ofString "no number") (ofString "sign") (ofString "0123456789") (ofString "text") (ofString "split") (ofString "no bound") (ofString "row") (ofString "parts") (ofString "no thing") (ofString "name") (ofString "no name") (ofString "not written so") (ofString "__name__") (ofString "law_uf050020_13") (ofString "bool") (ofString "value_in") (ofString "parted") (ofString "bits") (ofString "at") (ofString "first") (ofString "signs") (ofString "last") (ofString "rooms_for") (ofString "waiting") (ofString "found") (ofString "pop") (ofString "both") (ofString "splitrooms.stores") (ofString "__init__") (ofString "self") (ofString "BadBound") (ofString "held") (ofString "value") (ofString "need_name") (ofString "before") (ofString "with_thing") (ofString "no value") (ofString "without_thing") (ofString "own") (ofString "place") (ofString "places_of") (ofString "index") (ofString "startswith") (ofString "every") (ofString "splitrooms.notes") (ofString "mixed") (ofString "number") (ofString "SIGNS") (ofString "splitrooms.rooms") (ofString "ahead") (ofString "RoomError") (ofString "splitrooms.mixing") (ofString "BadName") (ofString "splitrooms.boards") (ofString "turn") (ofString "longer") (ofString "splitrooms.errors") (ofString "ValueError") (ofString "/claim/cut.py")
open Str in
noncomputable def uW:TG:=by
 refine (?k:PG ?F→TG) ⟨?h⟩
 case h=>
  dsimp only [PySem.Challenge.pw_uf050020_13]
  generalize ofString "_law_is_thing" =x0,ofString "_law_one" =x1,ofString "isinstance" =x2,ofString "tuple" =x3,ofString "len" =x4,ofString "_law_whole" =x5,ofString "_law_is_room" =x6,ofString "_law_room_here" =x7,ofString "_law_bound_here" =x8,ofString "_law_is_bits" =x9,ofString "list" =x10,ofString ".0" =x11,ofString "_law_k" =x12,ofString "range" =x13,ofString "_law_signs" =x14,ofString "fast" =x15,ofString "_law_rooms_hold" =x16,ofString "_law_rooms" =x17,ofString "_law_plain" =x18,ofString "_law_heads" =x19,ofString "_law_told" =x20,ofString "get" =x21,ofString "_law_found" =x22,ofString "_law_share" =x23,ofString "_law_bits" =x24,ofString "_law_before" =x25,ofString "max" =x26,ofString "" =x27,ofString "extend" =x28,ofString "sorted" =x29,ofString "_law_board_holds" =x30,ofString "_law_board" =x31,ofString "_law_depth" =x32,ofString "_law_known" =x33,ofString "_law_at" =x34,ofString "str" =x35,ofString "_law_left" =x36,ofString "01" =x37,ofString "_law_shape" =x38,ofString "_law_store" =x39,ofString "rooms" =x40,ofString "depth" =x41,ofString "board" =x42,ofString "law" =x43,ofString "_law_script" =x44,ofString "_law_bound" =x45,ofString "_law_cell_at" =x46,ofString "Store" =x47,ofString "_law_deeds_here" =x48,ofString "_law_deeds" =x49,ofString "_law_cut" =x50,ofString "_law_fill" =x51,ofString "_law_name_here" =x52,ofString "read" =x53,ofString "written" =x54,ofString "look" =x55,ofString "find" =x56,ofString "size" =x57,ofString "_law_held" =x58,ofString "things" =x59,ofString "_law_kept" =x60,ofString "_law_behind" =x61,ofString "_law_deed" =x62,ofString "put" =x63,ofString "append" =x64,ofString "_law_first" =x65,ofString "_law_cell" =x66,ofString "_law_many" =x67,ofString "_law_value" =x68,ofString "min" =x69,ofString "_law_room" =x70,ofString "_law_deeds_by" =x71,ofString "_law_worth" =x72,ofString "int" =x73,ofString "take" =x74,ofString "NoThing" =x75,ofString "_law_sign" =x76,ofString "0" =x77,ofString "1" =x78,ofString "_law_name" =x79,ofString "_law_more" =x80,ofString "_law_frame" =x81,ofString "_law_kind" =x82,ofString "_law_j" =x83,ofString "store" =x84,ofString "rows" =x85,ofString "bound " =x86,ofString "bound" =x87,ofString "room" =x88,ofString "words" =x89,ofString " " =x90,ofString "thing" =x91,ofString "=" =x92,ofString ":" =x93,ofString "join" =x94,ofString "\n" =x95,ofString "number_of" =x96,ofString "word" =x97,ofString "most" =x98,ofString "figures" =x99,ofString "-" =x100,ofString "NoStore" =x101,ofString "no number" =x102,ofString "sign" =x103,ofString "0123456789" =x104,ofString "text" =x105,ofString "split" =x106,ofString "no bound" =x107,ofString "row" =x108,ofString "parts" =x109,ofString "no thing" =x110,ofString "name" =x111,ofString "no name" =x112,ofString "not written so" =x113,ofString "__name__" =x114,ofString "law_uf050020_13" =x115,ofString "bool" =x116,ofString "value_in" =x117,ofString "parted" =x118,ofString "bits" =x119,ofString "at" =x120,ofString "first" =x121,ofString "signs" =x122,ofString "last" =x123,ofString "rooms_for" =x124,ofString "waiting" =x125,ofString "found" =x126,ofString "pop" =x127,ofString "both" =x128,ofString "splitrooms.stores" =x129,ofString "__init__" =x130,ofString "self" =x131,ofString "BadBound" =x132,ofString "held" =x133,ofString "value" =x134,ofString "need_name" =x135,ofString "before" =x136,ofString "with_thing" =x137,ofString "no value" =x138,ofString "without_thing" =x139,ofString "own" =x140,ofString "place" =x141,ofString "places_of" =x142,ofString "index" =x143,ofString "startswith" =x144,ofString "every" =x145,ofString "splitrooms.notes" =x146,ofString "mixed" =x147,ofString "number" =x148,ofString "SIGNS" =x149,ofString "splitrooms.rooms" =x150,ofString "ahead" =x151,ofString "RoomError" =x152,ofString "splitrooms.mixing" =x153,ofString "BadName" =x154,ofString "splitrooms.boards" =x155,ofString "turn" =x156,ofString "longer" =x157,ofString "splitrooms.errors" =x158,ofString "ValueError" =x159,ofString "/claim/cut.py" =x160
  rfl
 case k=>exact fun _=>?F
theorem progG_ok:PG uW:=⟨rfl⟩
noncomputable def z0:Str:=⟨⟨[95,108,97,119,95,105,115,95,116,104,105,110,103]⟩⟩
noncomputable def z1:Str:=⟨⟨[95,108,97,119,95,111,110,101]⟩⟩
noncomputable def z2:Str:=⟨⟨[105,115,105,110,115,116,97,110,99,101]⟩⟩
noncomputable def z3:Str:=⟨⟨[116,117,112,108,101]⟩⟩
noncomputable def z4:Str:=⟨⟨[108,101,110]⟩⟩
noncomputable def z5:Str:=⟨⟨[95,108,97,119,95,119,104,111,108,101]⟩⟩
noncomputable def z6:Str:=⟨⟨[95,108,97,119,95,105,115,95,114,111,111,109]⟩⟩
noncomputable def z7:Str:=⟨⟨[95,108,97,119,95,114,111,111,109,95,104,101,114,101]⟩⟩
noncomputable def z8:Str:=⟨⟨[95,108,97,119,95,98,111,117,110,100,95,104,101,114,101]⟩⟩
noncomputable def z9:Str:=⟨⟨[95,108,97,119,95,105,115,95,98,105,116,115]⟩⟩
noncomputable def z10:Str:=⟨⟨[108,105,115,116]⟩⟩
noncomputable def z11:Str:=⟨⟨[46,48]⟩⟩
noncomputable def z12:Str:=⟨⟨[95,108,97,119,95,107]⟩⟩
noncomputable def z13:Str:=⟨⟨[114,97,110,103,101]⟩⟩
noncomputable def z14:Str:=⟨⟨[95,108,97,119,95,115,105,103,110,115]⟩⟩
noncomputable def z15:Str:=⟨⟨[102,97,115,116]⟩⟩
noncomputable def z16:Str:=⟨⟨[95,108,97,119,95,114,111,111,109,115,95,104,111,108,100]⟩⟩
noncomputable def z17:Str:=⟨⟨[95,108,97,119,95,114,111,111,109,115]⟩⟩
noncomputable def z18:Str:=⟨⟨[95,108,97,119,95,112,108,97,105,110]⟩⟩
noncomputable def z19:Str:=⟨⟨[95,108,97,119,95,104,101,97,100,115]⟩⟩
noncomputable def z20:Str:=⟨⟨[95,108,97,119,95,116,111,108,100]⟩⟩
noncomputable def z21:Str:=⟨⟨[103,101,116]⟩⟩
noncomputable def z22:Str:=⟨⟨[95,108,97,119,95,102,111,117,110,100]⟩⟩
noncomputable def z23:Str:=⟨⟨[95,108,97,119,95,115,104,97,114,101]⟩⟩
noncomputable def z24:Str:=⟨⟨[95,108,97,119,95,98,105,116,115]⟩⟩
noncomputable def z25:Str:=⟨⟨[95,108,97,119,95,98,101,102,111,114,101]⟩⟩
noncomputable def z26:Str:=⟨⟨[109,97,120]⟩⟩
noncomputable def z27:Str:=⟨⟨[]⟩⟩
noncomputable def z28:Str:=⟨⟨[101,120,116,101,110,100]⟩⟩
noncomputable def z29:Str:=⟨⟨[115,111,114,116,101,100]⟩⟩
noncomputable def z30:Str:=⟨⟨[95,108,97,119,95,98,111,97,114,100,95,104,111,108,100,115]⟩⟩
noncomputable def z31:Str:=⟨⟨[95,108,97,119,95,98,111,97,114,100]⟩⟩
noncomputable def z32:Str:=⟨⟨[95,108,97,119,95,100,101,112,116,104]⟩⟩
noncomputable def z33:Str:=⟨⟨[95,108,97,119,95,107,110,111,119,110]⟩⟩
noncomputable def z34:Str:=⟨⟨[95,108,97,119,95,97,116]⟩⟩
noncomputable def z35:Str:=⟨⟨[115,116,114]⟩⟩
noncomputable def z36:Str:=⟨⟨[95,108,97,119,95,108,101,102,116]⟩⟩
noncomputable def z37:Str:=⟨⟨[48,49]⟩⟩
noncomputable def z38:Str:=⟨⟨[95,108,97,119,95,115,104,97,112,101]⟩⟩
noncomputable def z39:Str:=⟨⟨[95,108,97,119,95,115,116,111,114,101]⟩⟩
noncomputable def z40:Str:=⟨⟨[114,111,111,109,115]⟩⟩
noncomputable def z41:Str:=⟨⟨[100,101,112,116,104]⟩⟩
noncomputable def z42:Str:=⟨⟨[98,111,97,114,100]⟩⟩
noncomputable def z43:Str:=⟨⟨[108,97,119]⟩⟩
noncomputable def z44:Str:=⟨⟨[95,108,97,119,95,115,99,114,105,112,116]⟩⟩
noncomputable def z45:Str:=⟨⟨[95,108,97,119,95,98,111,117,110,100]⟩⟩
noncomputable def z46:Str:=⟨⟨[95,108,97,119,95,99,101,108,108,95,97,116]⟩⟩
noncomputable def z47:Str:=⟨⟨[83,116,111,114,101]⟩⟩
noncomputable def z48:Str:=⟨⟨[95,108,97,119,95,100,101,101,100,115,95,104,101,114,101]⟩⟩
noncomputable def z49:Str:=⟨⟨[95,108,97,119,95,100,101,101,100,115]⟩⟩
noncomputable def z50:Str:=⟨⟨[95,108,97,119,95,99,117,116]⟩⟩
noncomputable def z51:Str:=⟨⟨[95,108,97,119,95,102,105,108,108]⟩⟩
noncomputable def z52:Str:=⟨⟨[95,108,97,119,95,110,97,109,101,95,104,101,114,101]⟩⟩
noncomputable def z53:Str:=⟨⟨[114,101,97,100]⟩⟩
noncomputable def z54:Str:=⟨⟨[119,114,105,116,116,101,110]⟩⟩
noncomputable def z55:Str:=⟨⟨[108,111,111,107]⟩⟩
noncomputable def z56:Str:=⟨⟨[102,105,110,100]⟩⟩
noncomputable def z57:Str:=⟨⟨[115,105,122,101]⟩⟩
noncomputable def z58:Str:=⟨⟨[95,108,97,119,95,104,101,108,100]⟩⟩
noncomputable def z59:Str:=⟨⟨[116,104,105,110,103,115]⟩⟩
noncomputable def z60:Str:=⟨⟨[95,108,97,119,95,107,101,112,116]⟩⟩
noncomputable def z61:Str:=⟨⟨[95,108,97,119,95,98,101,104,105,110,100]⟩⟩
noncomputable def z62:Str:=⟨⟨[95,108,97,119,95,100,101,101,100]⟩⟩
noncomputable def z63:Str:=⟨⟨[112,117,116]⟩⟩
noncomputable def z64:Str:=⟨⟨[97,112,112,101,110,100]⟩⟩
noncomputable def z65:Str:=⟨⟨[95,108,97,119,95,102,105,114,115,116]⟩⟩
noncomputable def z66:Str:=⟨⟨[95,108,97,119,95,99,101,108,108]⟩⟩
noncomputable def z67:Str:=⟨⟨[95,108,97,119,95,109,97,110,121]⟩⟩
noncomputable def z68:Str:=⟨⟨[95,108,97,119,95,118,97,108,117,101]⟩⟩
noncomputable def z69:Str:=⟨⟨[109,105,110]⟩⟩
noncomputable def z70:Str:=⟨⟨[95,108,97,119,95,114,111,111,109]⟩⟩
noncomputable def z71:Str:=⟨⟨[95,108,97,119,95,100,101,101,100,115,95,98,121]⟩⟩
noncomputable def z72:Str:=⟨⟨[95,108,97,119,95,119,111,114,116,104]⟩⟩
noncomputable def z73:Str:=⟨⟨[105,110,116]⟩⟩
noncomputable def z74:Str:=⟨⟨[116,97,107,101]⟩⟩
noncomputable def z75:Str:=⟨⟨[78,111,84,104,105,110,103]⟩⟩
noncomputable def z76:Str:=⟨⟨[95,108,97,119,95,115,105,103,110]⟩⟩
noncomputable def z77:Str:=⟨⟨[48]⟩⟩
noncomputable def z78:Str:=⟨⟨[49]⟩⟩
noncomputable def z79:Str:=⟨⟨[95,108,97,119,95,110,97,109,101]⟩⟩
noncomputable def z80:Str:=⟨⟨[95,108,97,119,95,109,111,114,101]⟩⟩
noncomputable def z81:Str:=⟨⟨[95,108,97,119,95,102,114,97,109,101]⟩⟩
noncomputable def z82:Str:=⟨⟨[95,108,97,119,95,107,105,110,100]⟩⟩
noncomputable def z83:Str:=⟨⟨[95,108,97,119,95,106]⟩⟩
noncomputable def z84:Str:=⟨⟨[115,116,111,114,101]⟩⟩
noncomputable def z85:Str:=⟨⟨[114,111,119,115]⟩⟩
noncomputable def z86:Str:=⟨⟨[98,111,117,110,100,32]⟩⟩
noncomputable def z87:Str:=⟨⟨[98,111,117,110,100]⟩⟩
noncomputable def z88:Str:=⟨⟨[114,111,111,109]⟩⟩
noncomputable def z89:Str:=⟨⟨[119,111,114,100,115]⟩⟩
noncomputable def z90:Str:=⟨⟨[32]⟩⟩
noncomputable def z91:Str:=⟨⟨[116,104,105,110,103]⟩⟩
noncomputable def z92:Str:=⟨⟨[61]⟩⟩
noncomputable def z93:Str:=⟨⟨[58]⟩⟩
noncomputable def z94:Str:=⟨⟨[106,111,105,110]⟩⟩
noncomputable def z95:Str:=⟨⟨[10]⟩⟩
noncomputable def z96:Str:=⟨⟨[110,117,109,98,101,114,95,111,102]⟩⟩
noncomputable def z97:Str:=⟨⟨[119,111,114,100]⟩⟩
noncomputable def z98:Str:=⟨⟨[109,111,115,116]⟩⟩
noncomputable def z99:Str:=⟨⟨[102,105,103,117,114,101,115]⟩⟩
noncomputable def Ew:Str:=⟨⟨[45]⟩⟩
noncomputable def mV:Str:=⟨⟨[78,111,83,116,111,114,101]⟩⟩
noncomputable def Eu:Str:=⟨⟨[110,111,32,110,117,109,98,101,114]⟩⟩
noncomputable def Cf:Str:=⟨⟨[115,105,103,110]⟩⟩
noncomputable def Et:Str:=⟨⟨[48,49,50,51,52,53,54,55,56,57]⟩⟩
noncomputable def xA:Str:=⟨⟨[116,101,120,116]⟩⟩
noncomputable def Er:Str:=⟨⟨[115,112,108,105,116]⟩⟩
noncomputable def Ep:Str:=⟨⟨[110,111,32,98,111,117,110,100]⟩⟩
noncomputable def Ce:Str:=⟨⟨[114,111,119]⟩⟩
noncomputable def Cd:Str:=⟨⟨[112,97,114,116,115]⟩⟩
noncomputable def Eo:Str:=⟨⟨[110,111,32,116,104,105,110,103]⟩⟩
noncomputable def rS:Str:=⟨⟨[110,97,109,101]⟩⟩
noncomputable def En:Str:=⟨⟨[110,111,32,110,97,109,101]⟩⟩
noncomputable def Em:Str:=⟨⟨[110,111,116,32,119,114,105,116,116,101,110,32,115,111]⟩⟩
noncomputable def pG:Str:=⟨⟨[95,95,110,97,109,101,95,95]⟩⟩
noncomputable def gO:Str:=⟨⟨[108,97,119,95,117,102,48,53,48,48,50,48,95,49,51]⟩⟩
noncomputable def El:Str:=⟨⟨[98,111,111,108]⟩⟩
noncomputable def pE:Str:=⟨⟨[118,97,108,117,101,95,105,110]⟩⟩
noncomputable def pD:Str:=⟨⟨[112,97,114,116,101,100]⟩⟩
noncomputable def Ek:Str:=⟨⟨[98,105,116,115]⟩⟩
noncomputable def Ej:Str:=⟨⟨[97,116]⟩⟩
noncomputable def Ei:Str:=⟨⟨[102,105,114,115,116]⟩⟩
noncomputable def ow:Str:=⟨⟨[115,105,103,110,115]⟩⟩
noncomputable def Eh:Str:=⟨⟨[108,97,115,116]⟩⟩
noncomputable def pC:Str:=⟨⟨[114,111,111,109,115,95,102,111,114]⟩⟩
noncomputable def Eg:Str:=⟨⟨[119,97,105,116,105,110,103]⟩⟩
noncomputable def Cc:Str:=⟨⟨[102,111,117,110,100]⟩⟩
noncomputable def Ef:Str:=⟨⟨[112,111,112]⟩⟩
noncomputable def Ee:Str:=⟨⟨[98,111,116,104]⟩⟩
noncomputable def kD:Str:=⟨⟨[115,112,108,105,116,114,111,111,109,115,46,115,116,111,114,101,115]⟩⟩
noncomputable def ue:Str:=⟨⟨[95,95,105,110,105,116,95,95]⟩⟩
noncomputable def rZ:Str:=⟨⟨[115,101,108,102]⟩⟩
noncomputable def lC:Str:=⟨⟨[66,97,100,66,111,117,110,100]⟩⟩
noncomputable def Cb:Str:=⟨⟨[104,101,108,100]⟩⟩
noncomputable def Ca:Str:=⟨⟨[118,97,108,117,101]⟩⟩
noncomputable def ou:Str:=⟨⟨[110,101,101,100,95,110,97,109,101]⟩⟩
noncomputable def Ab:Str:=⟨⟨[98,101,102,111,114,101]⟩⟩
noncomputable def ot:Str:=⟨⟨[119,105,116,104,95,116,104,105,110,103]⟩⟩
noncomputable def Ed:Str:=⟨⟨[110,111,32,118,97,108,117,101]⟩⟩
noncomputable def oq:Str:=⟨⟨[119,105,116,104,111,117,116,95,116,104,105,110,103]⟩⟩
noncomputable def Ec:Str:=⟨⟨[111,119,110]⟩⟩
noncomputable def BZ:Str:=⟨⟨[112,108,97,99,101]⟩⟩
noncomputable def kC:Str:=⟨⟨[112,108,97,99,101,115,95,111,102]⟩⟩
noncomputable def Eb:Str:=⟨⟨[105,110,100,101,120]⟩⟩
noncomputable def Ea:Str:=⟨⟨[115,116,97,114,116,115,119,105,116,104]⟩⟩
noncomputable def DZ:Str:=⟨⟨[101,118,101,114,121]⟩⟩
noncomputable def xz:Str:=⟨⟨[115,112,108,105,116,114,111,111,109,115,46,110,111,116,101,115]⟩⟩
noncomputable def on:Str:=⟨⟨[109,105,120,101,100]⟩⟩
noncomputable def BX:Str:=⟨⟨[110,117,109,98,101,114]⟩⟩
noncomputable def ud:Str:=⟨⟨[83,73,71,78,83]⟩⟩
noncomputable def tn:Str:=⟨⟨[115,112,108,105,116,114,111,111,109,115,46,114,111,111,109,115]⟩⟩
noncomputable def DY:Str:=⟨⟨[97,104,101,97,100]⟩⟩
noncomputable def dR:Str:=⟨⟨[82,111,111,109,69,114,114,111,114]⟩⟩
noncomputable def xy:Str:=⟨⟨[115,112,108,105,116,114,111,111,109,115,46,109,105,120,105,110,103]⟩⟩
noncomputable def kB:Str:=⟨⟨[66,97,100,78,97,109,101]⟩⟩
noncomputable def BW:Str:=⟨⟨[115,112,108,105,116,114,111,111,109,115,46,98,111,97,114,100,115]⟩⟩
noncomputable def BV:Str:=⟨⟨[116,117,114,110]⟩⟩
noncomputable def BU:Str:=⟨⟨[108,111,110,103,101,114]⟩⟩
noncomputable def iU:Str:=⟨⟨[115,112,108,105,116,114,111,111,109,115,46,101,114,114,111,114,115]⟩⟩
noncomputable def DX:Str:=⟨⟨[86,97,108,117,101,69,114,114,111,114]⟩⟩
noncomputable def aP:Str:=⟨⟨[47,99,108,97,105,109,47,99,117,116,46,112,121]⟩⟩
noncomputable def prog:Program:=uW z0 z1 z2 z3 z4 z5 z6 z7 z8 z9 z10 z11 z12 z13 z14 z15 z16 z17 z18 z19 z20 z21 z22 z23 z24 z25 z26 z27 z28 z29 z30 z31 z32 z33 z34 z35 z36 z37 z38 z39 z40 z41 z42 z43 z44 z45 z46 z47 z48 z49 z50 z51 z52 z53 z54 z55 z56 z57 z58 z59 z60 z61 z62 z63 z64 z65 z66 z67 z68 z69 z70 z71 z72 z73 z74 z75 z76 z77 z78 z79 z80 z81 z82 z83 z84 z85 z86 z87 z88 z89 z90 z91 z92 z93 z94 z95 z96 z97 z98 z99 Ew mV Eu Cf Et xA Er Ep Ce Cd Eo rS En Em pG gO El pE pD Ek Ej Ei ow Eh pC Eg Cc Ef Ee kD ue rZ lC Cb Ca ou Ab ot Ed oq Ec BZ kC Eb Ea DZ xz on BX ud tn DY dR xy kB BW BV BU iU DX aP
theorem uV:PySem.Challenge.pw_uf050020_13=prog:=progG_ok.h.trans (congr (congr (congr (congr (congr (congr (congr (congr (congr (congr (congr (congr (congr (congr (congr (congr (congr (congr (congr (congr (congr (congr (congr (congr (congr (congr (congr (congr (congr (congr (congr (congr (congr (congr (congr (congr (congr (congr (congr (congr (congr (congr (congr (congr (congr (congr (congr (congr (congr (congr (congr (congr (congr (congr (congr (congr (congr (congr (congr (congr (congr (congr (congr (congr (congr (congr (congr (congr (congr (congr (congr (congr (congr (congr (congr (congr (congr (congr (congr (congr (congr (congr (congr (congr (congr (congr (congr (congr (congr (congr (congr (congr (congr (congr (congr (congr (congr (congr (congr (congr (congr (congr (congr (congr (congr (congr (congr (congr (congr (congr (congr (congr (congr (congr (congr (congr (congr (congr (congr (congr (congr (congr (congr (congr (congr (congr (congr (congr (congr (congr (congr (congr (congr (congr (congr (congr (congr (congr (congr (congr (congr (congr (congr (congr (congr (congr (congr (congr (congr (congr (congr (congr (congr (congr (congr (congr (congr (congr (congr (congr (congrArg uW (oL ['_','l','a','w','_','i','s','_','t','h','i','n','g']:_=z0)) (oL ['_','l','a','w','_','o','n','e']:_=z1)) (oL ['i','s','i','n','s','t','a','n','c','e']:_=z2)) (oL ['t','u','p','l','e']:_=z3)) (oL ['l','e','n']:_=z4)) (oL ['_','l','a','w','_','w','h','o','l','e']:_=z5)) (oL ['_','l','a','w','_','i','s','_','r','o','o','m']:_=z6)) (oL ['_','l','a','w','_','r','o','o','m','_','h','e','r','e']:_=z7)) (oL ['_','l','a','w','_','b','o','u','n','d','_','h','e','r','e']:_=z8)) (oL ['_','l','a','w','_','i','s','_','b','i','t','s']:_=z9)) (oL ['l','i','s','t']:_=z10)) (oL ['.','0']:_=z11)) (oL ['_','l','a','w','_','k']:_=z12)) (oL ['r','a','n','g','e']:_=z13)) (oL ['_','l','a','w','_','s','i','g','n','s']:_=z14)) (oL ['f','a','s','t']:_=z15)) (oL ['_','l','a','w','_','r','o','o','m','s','_','h','o','l','d']:_=z16)) (oL ['_','l','a','w','_','r','o','o','m','s']:_=z17)) (oL ['_','l','a','w','_','p','l','a','i','n']:_=z18)) (oL ['_','l','a','w','_','h','e','a','d','s']:_=z19)) (oL ['_','l','a','w','_','t','o','l','d']:_=z20)) (oL ['g','e','t']:_=z21)) (oL ['_','l','a','w','_','f','o','u','n','d']:_=z22)) (oL ['_','l','a','w','_','s','h','a','r','e']:_=z23)) (oL ['_','l','a','w','_','b','i','t','s']:_=z24)) (oL ['_','l','a','w','_','b','e','f','o','r','e']:_=z25)) (oL ['m','a','x']:_=z26)) (oL []:_=z27)) (oL ['e','x','t','e','n','d']:_=z28)) (oL ['s','o','r','t','e','d']:_=z29)) (oL ['_','l','a','w','_','b','o','a','r','d','_','h','o','l','d','s']:_=z30)) (oL ['_','l','a','w','_','b','o','a','r','d']:_=z31)) (oL ['_','l','a','w','_','d','e','p','t','h']:_=z32)) (oL ['_','l','a','w','_','k','n','o','w','n']:_=z33)) (oL ['_','l','a','w','_','a','t']:_=z34)) (oL ['s','t','r']:_=z35)) (oL ['_','l','a','w','_','l','e','f','t']:_=z36)) (oL ['0','1']:_=z37)) (oL ['_','l','a','w','_','s','h','a','p','e']:_=z38)) (oL ['_','l','a','w','_','s','t','o','r','e']:_=z39)) (oL ['r','o','o','m','s']:_=z40)) (oL ['d','e','p','t','h']:_=z41)) (oL ['b','o','a','r','d']:_=z42)) (oL ['l','a','w']:_=z43)) (oL ['_','l','a','w','_','s','c','r','i','p','t']:_=z44)) (oL ['_','l','a','w','_','b','o','u','n','d']:_=z45)) (oL ['_','l','a','w','_','c','e','l','l','_','a','t']:_=z46)) (oL ['S','t','o','r','e']:_=z47)) (oL ['_','l','a','w','_','d','e','e','d','s','_','h','e','r','e']:_=z48)) (oL ['_','l','a','w','_','d','e','e','d','s']:_=z49)) (oL ['_','l','a','w','_','c','u','t']:_=z50)) (oL ['_','l','a','w','_','f','i','l','l']:_=z51)) (oL ['_','l','a','w','_','n','a','m','e','_','h','e','r','e']:_=z52)) (oL ['r','e','a','d']:_=z53)) (oL ['w','r','i','t','t','e','n']:_=z54)) (oL ['l','o','o','k']:_=z55)) (oL ['f','i','n','d']:_=z56)) (oL ['s','i','z','e']:_=z57)) (oL ['_','l','a','w','_','h','e','l','d']:_=z58)) (oL ['t','h','i','n','g','s']:_=z59)) (oL ['_','l','a','w','_','k','e','p','t']:_=z60)) (oL ['_','l','a','w','_','b','e','h','i','n','d']:_=z61)) (oL ['_','l','a','w','_','d','e','e','d']:_=z62)) (oL ['p','u','t']:_=z63)) (oL ['a','p','p','e','n','d']:_=z64)) (oL ['_','l','a','w','_','f','i','r','s','t']:_=z65)) (oL ['_','l','a','w','_','c','e','l','l']:_=z66)) (oL ['_','l','a','w','_','m','a','n','y']:_=z67)) (oL ['_','l','a','w','_','v','a','l','u','e']:_=z68)) (oL ['m','i','n']:_=z69)) (oL ['_','l','a','w','_','r','o','o','m']:_=z70)) (oL ['_','l','a','w','_','d','e','e','d','s','_','b','y']:_=z71)) (oL ['_','l','a','w','_','w','o','r','t','h']:_=z72)) (oL ['i','n','t']:_=z73)) (oL ['t','a','k','e']:_=z74)) (oL ['N','o','T','h','i','n','g']:_=z75)) (oL ['_','l','a','w','_','s','i','g','n']:_=z76)) (oL ['0']:_=z77)) (oL ['1']:_=z78)) (oL ['_','l','a','w','_','n','a','m','e']:_=z79)) (oL ['_','l','a','w','_','m','o','r','e']:_=z80)) (oL ['_','l','a','w','_','f','r','a','m','e']:_=z81)) (oL ['_','l','a','w','_','k','i','n','d']:_=z82)) (oL ['_','l','a','w','_','j']:_=z83)) (oL ['s','t','o','r','e']:_=z84)) (oL ['r','o','w','s']:_=z85)) (oL ['b','o','u','n','d',' ']:_=z86)) (oL ['b','o','u','n','d']:_=z87)) (oL ['r','o','o','m']:_=z88)) (oL ['w','o','r','d','s']:_=z89)) (oL [' ']:_=z90)) (oL ['t','h','i','n','g']:_=z91)) (oL ['=']:_=z92)) (oL [':']:_=z93)) (oL ['j','o','i','n']:_=z94)) (oL ['\n']:_=z95)) (oL ['n','u','m','b','e','r','_','o','f']:_=z96)) (oL ['w','o','r','d']:_=z97)) (oL ['m','o','s','t']:_=z98)) (oL ['f','i','g','u','r','e','s']:_=z99)) (oL ['-']:_=Ew)) (oL ['N','o','S','t','o','r','e']:_=mV)) (oL ['n','o',' ','n','u','m','b','e','r']:_=Eu)) (oL ['s','i','g','n']:_=Cf)) (oL ['0','1','2','3','4','5','6','7','8','9']:_=Et)) (oL ['t','e','x','t']:_=xA)) (oL ['s','p','l','i','t']:_=Er)) (oL ['n','o',' ','b','o','u','n','d']:_=Ep)) (oL ['r','o','w']:_=Ce)) (oL ['p','a','r','t','s']:_=Cd)) (oL ['n','o',' ','t','h','i','n','g']:_=Eo)) (oL ['n','a','m','e']:_=rS)) (oL ['n','o',' ','n','a','m','e']:_=En)) (oL ['n','o','t',' ','w','r','i','t','t','e','n',' ','s','o']:_=Em)) (oL ['_','_','n','a','m','e','_','_']:_=pG)) (oL ['l','a','w','_','u','f','0','5','0','0','2','0','_','1','3']:_=gO)) (oL ['b','o','o','l']:_=El)) (oL ['v','a','l','u','e','_','i','n']:_=pE)) (oL ['p','a','r','t','e','d']:_=pD)) (oL ['b','i','t','s']:_=Ek)) (oL ['a','t']:_=Ej)) (oL ['f','i','r','s','t']:_=Ei)) (oL ['s','i','g','n','s']:_=ow)) (oL ['l','a','s','t']:_=Eh)) (oL ['r','o','o','m','s','_','f','o','r']:_=pC)) (oL ['w','a','i','t','i','n','g']:_=Eg)) (oL ['f','o','u','n','d']:_=Cc)) (oL ['p','o','p']:_=Ef)) (oL ['b','o','t','h']:_=Ee)) (oL ['s','p','l','i','t','r','o','o','m','s','.','s','t','o','r','e','s']:_=kD)) (oL ['_','_','i','n','i','t','_','_']:_=ue)) (oL ['s','e','l','f']:_=rZ)) (oL ['B','a','d','B','o','u','n','d']:_=lC)) (oL ['h','e','l','d']:_=Cb)) (oL ['v','a','l','u','e']:_=Ca)) (oL ['n','e','e','d','_','n','a','m','e']:_=ou)) (oL ['b','e','f','o','r','e']:_=Ab)) (oL ['w','i','t','h','_','t','h','i','n','g']:_=ot)) (oL ['n','o',' ','v','a','l','u','e']:_=Ed)) (oL ['w','i','t','h','o','u','t','_','t','h','i','n','g']:_=oq)) (oL ['o','w','n']:_=Ec)) (oL ['p','l','a','c','e']:_=BZ)) (oL ['p','l','a','c','e','s','_','o','f']:_=kC)) (oL ['i','n','d','e','x']:_=Eb)) (oL ['s','t','a','r','t','s','w','i','t','h']:_=Ea)) (oL ['e','v','e','r','y']:_=DZ)) (oL ['s','p','l','i','t','r','o','o','m','s','.','n','o','t','e','s']:_=xz)) (oL ['m','i','x','e','d']:_=on)) (oL ['n','u','m','b','e','r']:_=BX)) (oL ['S','I','G','N','S']:_=ud)) (oL ['s','p','l','i','t','r','o','o','m','s','.','r','o','o','m','s']:_=tn)) (oL ['a','h','e','a','d']:_=DY)) (oL ['R','o','o','m','E','r','r','o','r']:_=dR)) (oL ['s','p','l','i','t','r','o','o','m','s','.','m','i','x','i','n','g']:_=xy)) (oL ['B','a','d','N','a','m','e']:_=kB)) (oL ['s','p','l','i','t','r','o','o','m','s','.','b','o','a','r','d','s']:_=BW)) (oL ['t','u','r','n']:_=BV)) (oL ['l','o','n','g','e','r']:_=BU)) (oL ['s','p','l','i','t','r','o','o','m','s','.','e','r','r','o','r','s']:_=iU)) (oL ['V','a','l','u','e','E','r','r','o','r']:_=DX)) (oL ['/','c','l','a','i','m','/','c','u','t','.','p','y']:_=aP))
noncomputable def lawT:OpenLaw:={ prog:=prog,name:=z43,about:=[z47,z57],foot:=19,most:=some 63,bound:=none,writes:=false }
theorem zw:PySem.Challenge.rw_uf050020_13=lawT:=by
 unfold PySem.Challenge.rw_uf050020_13 lawT
 rw [uV,(Fast.ofString_ofList ['l','a','w']:Str.ofString "law" =z43),(Fast.ofString_ofList ['S','t','o','r','e']:Str.ofString "Store" =z47),(Fast.ofString_ofList ['s','i','z','e']:Str.ofString "size" =z57)]
 rfl
noncomputable def y0:String:=SL.s2766695959194262286x5
noncomputable def y1:String:=SL.s5856160107412720595x4
noncomputable def y2:String:=SL.s7174869446012820540x8
noncomputable def y3:String:=SL.s14018661285674007319x4
noncomputable def y4:String:=SL.s17162191345867700912x4
noncomputable def y5:String:=SL.s6070975301684473832x10
noncomputable def dE (P:Params) (s:Str) (t:Nat) (v:Value):DictEntry:=⟨PyData.keyHash P s,.str s t,v⟩
noncomputable def lf (o:Obj):W.BT:=.node o .nil .nil
noncomputable def EB:Pos:=⟨0,0,0,0⟩
noncomputable def st (i:Nat):Stmt:=(prog.main.body[i]?).getD (.Pass EB)
noncomputable def fA (s:Stmt):Arguments:=match s with
 | .FunctionDef _ a _ _ _ _ _ _ _ _=>a
 | _=>⟨[],[],none,[],[],none,[]⟩
noncomputable def fB (s:Stmt):List Stmt:=match s with
 | .FunctionDef _ _ b _ _ _ _ _ _ _=>b
 | .ClassDef _ _ _ b _ _ _ _ _ _ _=>b
 | _=>[]
noncomputable def fS (s:Stmt):Scope:=match s with
 | .FunctionDef _ _ _ _ _ _ s _ _ _=>s
 | _=>prog.main.scope
noncomputable def stC (i j:Nat):Stmt:=((fB (st i))[j]?).getD (.Pass EB)
noncomputable def q0:Str:=⟨⟨[95,95,97,110,110,111,116,97,116,105,111,110,115,95,95]⟩⟩
noncomputable def q12:Str:=⟨⟨[95,95,109,111,100,117,108,101,95,95]⟩⟩
noncomputable def q14:Str:=⟨⟨[95,95,113,117,97,108,110,97,109,101,95,95]⟩⟩
noncomputable def q16:Str:=⟨⟨[95,95,102,105,114,115,116,108,105,110,101,110,111,95,95]⟩⟩
noncomputable def q17:Str:=⟨⟨[95,95,115,116,97,116,105,99,95,97,116,116,114,105,98,117,116,101,115,95,95]⟩⟩
noncomputable def q20:Str:=⟨⟨[83,116,111,114,101,46,98,111,97,114,100]⟩⟩
noncomputable def q25:Str:=⟨⟨[83,116,111,114,101,46,108,111,111,107]⟩⟩
noncomputable def q31:Str:=⟨⟨[83,116,111,114,101,46,116,104,105,110,103,115]⟩⟩
noncomputable def q34:Str:=⟨⟨[83,116,111,114,101,46,114,111,111,109,115]⟩⟩
noncomputable def q51:Str:=⟨⟨[83,116,111,114,101,46,112,117,116]⟩⟩
noncomputable def q53:Str:=⟨⟨[95,95,100,111,99,95,95]⟩⟩
noncomputable def q58:Str:=⟨⟨[83,116,111,114,101,46,95,95,105,110,105,116,95,95]⟩⟩
noncomputable def q60:Str:=⟨⟨[95,95,109,97,105,110,95,95]⟩⟩
noncomputable def q65:Str:=⟨⟨[95,95,112,97,99,107,97,103,101,95,95]⟩⟩
noncomputable def q66:Str:=⟨⟨[95,95,108,111,97,100,101,114,95,95]⟩⟩
noncomputable def q67:Str:=⟨⟨[95,95,115,112,101,99,95,95]⟩⟩
noncomputable def q68:Str:=⟨⟨[95,95,98,117,105,108,116,105,110,115,95,95]⟩⟩
noncomputable def q69:Str:=⟨⟨[95,95,102,105,108,101,95,95]⟩⟩
noncomputable def q70:Str:=⟨⟨[95,95,99,97,99,104,101,100,95,95]⟩⟩
noncomputable def q83:Str:=⟨⟨[83,116,111,114,101,46,116,97,107,101]⟩⟩
noncomputable def q84:Str:=⟨⟨[83,116,111,114,101,46,100,101,112,116,104]⟩⟩
noncomputable def q87:Str:=⟨⟨[95,95,119,101,97,107,114,101,102,95,95]⟩⟩
noncomputable def q89:Str:=⟨⟨[83,116,111,114,101,46,115,105,122,101]⟩⟩
noncomputable def EA:Str:=⟨⟨[60,109,111,100,117,108,101,62]⟩⟩
noncomputable def Ez:Str:=⟨⟨[95,95,100,105,99,116,95,95]⟩⟩
noncomputable def Cn:Str:=⟨⟨[83,116,111,114,101,46,102,105,110,100]⟩⟩
noncomputable def o43 (P:Params):Obj:=⟨(.type y0),.none,(.seq ⟨[]⟩ 0),⟨[]⟩⟩
noncomputable def o44 (P:Params):Obj:=⟨.none,.none,(.fields ⟨[]⟩),⟨[]⟩⟩
noncomputable def o45 (P:Params):Obj:=⟨(.type y1),.none,(.fields ⟨[(.str EA 182),(.str EA 183),(.str aP 184),(.int 1 0),(.int 0 0),(.int 0 0),(.int 0 0),(.int 0 0),(.ref 11),(.bool .false),(.int 181 0),(.ref 12),.none,.none,.none,.none,(.int 185 0),(.int 1 0),(.str aP 186)]⟩),⟨[]⟩⟩
noncomputable def o46 (P:Params):Obj:=⟨(.type SL.s658472552662922059x5),.none,.plain,⟨[(.some (.ref 13)),(.some (.ref 3)),(.some (.ref 3)),.none,(.some (.str q60 164)),.none,(.some (.ref 0))]⟩⟩
noncomputable def o49 (P:Params):Obj:=⟨(.type y3),.none,(.dict ⟨[dE P pG 165 (.str iU 200),dE P q53 166 .none,dE P q65 167 .none,dE P q66 168 (.builtin SL.s7097527257260152453x26),dE P q67 169 .none,dE P q0 170 (.ref 6),dE P q68 171 (.ref 4),dE P q69 173 (.str aP 172),dE P q70 174 .none,dE P kC 199 (.ref 21),dE P dR 219 (.ref 31)]⟩ 11),⟨[]⟩⟩
noncomputable def o50 (P:Params):Obj:=⟨.none,.none,(.fields ⟨[(.int 2 0),(.int 0 0),(.ref 20),(.int 12 0),(.int 0 0),(.ref 27)]⟩),⟨[]⟩⟩
noncomputable def o51 (P:Params):Obj:=⟨(.type y0),.none,(.seq ⟨[]⟩ 0),⟨[]⟩⟩
noncomputable def o52 (P:Params):Obj:=⟨.none,.none,(.fields ⟨[]⟩),⟨[]⟩⟩
noncomputable def o53 (P:Params):Obj:=⟨(.type y0),.none,(.seq ⟨[(.str z41 192),(.str Cc 193),(.str BV 194),(.str BU 195),(.str xA 196)]⟩ 0),⟨[]⟩⟩
noncomputable def o54 (P:Params):Obj:=⟨(.type y0),.none,(.seq ⟨[]⟩ 0),⟨[]⟩⟩
noncomputable def o55 (P:Params):Obj:=⟨.none,.none,(.func ⟨kC,kC,(fA (st 1)),(.stmts (fB (st 1))),(fS (st 1)),0,[],.none,.none,.none,.none,.none,.none,.none,0⟩),⟨[]⟩⟩
noncomputable def o56 (P:Params):Obj:=⟨(.type y1),.none,(.fields ⟨[(.str kC 189),(.str kC 190),(.str aP 191),(.int 2 0),(.int 1 0),(.int 0 0),(.int 0 0),(.int 3 0),(.ref 15),(.bool .true),(.int 181 0),(.ref 16),.none,(.ref 17),(.ref 18),(.ref 19),(.int 197 0),(.int 2 0),(.str aP 198)]⟩),⟨[]⟩⟩
noncomputable def o57 (P:Params):Obj:=⟨(.type y2),.none,(.func ⟨kC,kC,(fA (st 1)),(.stmts (fB (st 1))),(fS (st 1)),3,[],.none,.none,.none,(.str BW 187),.none,(.ref 20),.none,0⟩),⟨[]⟩⟩
noncomputable def o58 (P:Params):Obj:=⟨(.type y0),.none,(.seq ⟨[(.type y5)]⟩ 0),⟨[]⟩⟩
noncomputable def o59 (P:Params):Obj:=⟨(.type SL.s11030030927630378310x26),.none,(.fields ⟨[(.builtin SL.s10062305145149207511x16),(.type y4)]⟩),⟨[]⟩⟩
noncomputable def o60 (P:Params):Obj:=⟨(.type y3),.none,(.dict ⟨[dE P q12 209 (.str iU 200),dE P q14 211 (.str dR 210),dE P q16 213 (.int 12 212),dE P q17 214 (.ref 29)]⟩ 4),⟨[]⟩⟩
noncomputable def o61 (P:Params):Obj:=⟨(.type y0),.none,(.seq ⟨[]⟩ 0),⟨[]⟩⟩
noncomputable def o62 (P:Params):Obj:=⟨.none,.none,(.fields ⟨[]⟩),⟨[]⟩⟩
noncomputable def o63 (P:Params):Obj:=⟨(.type y1),.none,(.fields ⟨[(.str dR 204),(.str dR 205),(.str aP 206),(.int 12 0),(.int 0 0),(.int 0 0),(.int 0 0),(.int 0 0),(.ref 25),(.bool .false),(.int 181 0),(.ref 26),.none,.none,.none,.none,(.int 207 0),(.int 12 0),(.str aP 208)]⟩),⟨[]⟩⟩
noncomputable def o64 (P:Params):Obj:=⟨(.type SL.s658472552662922059x5),.none,.plain,⟨[(.some (.ref 27)),(.some (.ref 3)),(.some (.ref 24)),.none,(.some (.str iU 200)),.none,(.some (.ref 0))]⟩⟩
noncomputable def o65 (P:Params):Obj:=⟨(.type y0),.none,(.seq ⟨[]⟩ 0),⟨[]⟩⟩
noncomputable def o66 (P:Params):Obj:=⟨(.type y3),.none,(.dict ⟨[dE P q12 209 (.str iU 200),dE P q16 213 (.int 12 212),dE P q17 214 (.ref 29),dE P q87 216 (.ref 32),dE P q53 217 .none]⟩ 3),⟨[]⟩⟩
noncomputable def o67 (P:Params):Obj:=⟨(.type y4),.none,(.cls ⟨dR,[(.type y5)],[(.ref 31),(.type y5),(.type SL.s5946037652744460706x9),(.type SL.s4278001404047624695x13),(.type SL.s2742458400755230247x6)],30,dR,.true,[],[],.false,.none,.false⟩),⟨[(.some (.ref 22)),.none,(.some (.str dR 202)),(.some (.str dR 210)),(.some (.builtin SL.s4209523147560561109x18)),(.some (.bool .true))]⟩⟩
noncomputable def o68 (P:Params):Obj:=⟨(.type SL.s14755015743595814543x17),.none,(.fields ⟨[(.str q87 215),(.ref 31),(.builtin SL.s10220274742760427390x26),.none]⟩),⟨[]⟩⟩
noncomputable def o69 (P:Params):Obj:=⟨(.type SL.s4290257624100764138x5),.none,(.fields ⟨[(.ref 31),(.ref 31),(.ref 31)]⟩),⟨[]⟩⟩
noncomputable def o70 (P:Params):Obj:=⟨(.type SL.s11030030927630378310x26),.none,(.fields ⟨[(.builtin SL.s4860613602091757760x24),(.ref 31)]⟩),⟨[]⟩⟩
noncomputable def o71 (P:Params):Obj:=⟨(.type y3),.none,(.dict ⟨[dE P pG 165 (.str iU 200),dE P q53 166 .none,dE P q65 167 .none,dE P q66 168 (.builtin SL.s7097527257260152453x26),dE P q67 169 .none,dE P q0 170 (.ref 6),dE P q68 171 (.ref 4),dE P q69 173 (.str aP 172),dE P q70 174 .none,dE P kC 199 (.ref 21),dE P dR 219 (.ref 31),dE P kB 235 (.ref 44)]⟩ 12),⟨[]⟩⟩
noncomputable def o72 (P:Params):Obj:=⟨.none,.none,(.fields ⟨[(.int 2 0),(.int 0 0),(.ref 20),(.int 12 0),(.int 0 0),(.ref 27),(.int 14 0),(.int 0 0),(.ref 40)]⟩),⟨[]⟩⟩
noncomputable def o73 (P:Params):Obj:=⟨(.type y4),.none,(.cls ⟨dR,[(.type y5)],[(.ref 31),(.type y5),(.type SL.s5946037652744460706x9),(.type SL.s4278001404047624695x13),(.type SL.s2742458400755230247x6)],30,dR,.true,[],[(.ref 44)],.false,.none,.false⟩),⟨[(.some (.ref 22)),.none,(.some (.str dR 202)),(.some (.str dR 210)),(.some (.builtin SL.s4209523147560561109x18)),(.some (.bool .true))]⟩⟩
noncomputable def o74 (P:Params):Obj:=⟨(.type y0),.none,(.seq ⟨[(.ref 31)]⟩ 0),⟨[]⟩⟩
noncomputable def o75 (P:Params):Obj:=⟨(.type SL.s11030030927630378310x26),.none,(.fields ⟨[(.builtin SL.s10062305145149207511x16),(.type y4)]⟩),⟨[]⟩⟩
noncomputable def o76 (P:Params):Obj:=⟨(.type y3),.none,(.dict ⟨[dE P q12 227 (.str iU 200),dE P q14 229 (.str kB 228),dE P q16 231 (.int 14 230),dE P q17 232 (.ref 42)]⟩ 4),⟨[]⟩⟩
noncomputable def o77 (P:Params):Obj:=⟨(.type y0),.none,(.seq ⟨[]⟩ 0),⟨[]⟩⟩
noncomputable def o78 (P:Params):Obj:=⟨.none,.none,(.fields ⟨[]⟩),⟨[]⟩⟩
noncomputable def o79 (P:Params):Obj:=⟨(.type y1),.none,(.fields ⟨[(.str kB 222),(.str kB 223),(.str aP 224),(.int 14 0),(.int 0 0),(.int 0 0),(.int 0 0),(.int 0 0),(.ref 38),(.bool .false),(.int 181 0),(.ref 39),.none,.none,.none,.none,(.int 225 0),(.int 14 0),(.str aP 226)]⟩),⟨[]⟩⟩
noncomputable def o80 (P:Params):Obj:=⟨(.type SL.s658472552662922059x5),.none,.plain,⟨[(.some (.ref 40)),(.some (.ref 3)),(.some (.ref 37)),.none,(.some (.str iU 200)),.none,(.some (.ref 0))]⟩⟩
noncomputable def o81 (P:Params):Obj:=⟨(.type y0),.none,(.seq ⟨[]⟩ 0),⟨[]⟩⟩
noncomputable def o82 (P:Params):Obj:=⟨(.type y3),.none,(.dict ⟨[dE P q12 227 (.str iU 200),dE P q16 231 (.int 14 230),dE P q17 232 (.ref 42),dE P q53 233 .none]⟩ 2),⟨[]⟩⟩
noncomputable def o83 (P:Params):Obj:=⟨(.type y4),.none,(.cls ⟨kB,[(.ref 31)],[(.ref 44),(.ref 31),(.type y5),(.type SL.s5946037652744460706x9),(.type SL.s4278001404047624695x13),(.type SL.s2742458400755230247x6)],43,kB,.true,[],[],.false,.none,.false⟩),⟨[(.some (.ref 35)),.none,(.some (.str kB 220)),(.some (.str kB 228)),(.some (.builtin SL.s4209523147560561109x18)),(.some (.bool .true))]⟩⟩
noncomputable def o84 (P:Params):Obj:=⟨(.type SL.s4290257624100764138x5),.none,(.fields ⟨[(.ref 44),(.ref 44),(.ref 44)]⟩),⟨[]⟩⟩
noncomputable def o85 (P:Params):Obj:=⟨(.type SL.s11030030927630378310x26),.none,(.fields ⟨[(.builtin SL.s4860613602091757760x24),(.ref 44)]⟩),⟨[]⟩⟩
noncomputable def o86 (P:Params):Obj:=⟨(.type y3),.none,(.dict ⟨[dE P pG 165 (.str iU 200),dE P q53 166 .none,dE P q65 167 .none,dE P q66 168 (.builtin SL.s7097527257260152453x26),dE P q67 169 .none,dE P q0 170 (.ref 6),dE P q68 171 (.ref 4),dE P q69 173 (.str aP 172),dE P q70 174 .none,dE P kC 199 (.ref 21),dE P dR 219 (.ref 31),dE P kB 235 (.ref 44),dE P lC 251 (.ref 56)]⟩ 13),⟨[]⟩⟩
noncomputable def o87 (P:Params):Obj:=⟨.none,.none,(.fields ⟨[(.int 2 0),(.int 0 0),(.ref 20),(.int 12 0),(.int 0 0),(.ref 27),(.int 14 0),(.int 0 0),(.ref 40),(.int 16 0),(.int 0 0),(.ref 52)]⟩),⟨[]⟩⟩
noncomputable def o88 (P:Params):Obj:=⟨(.type y4),.none,(.cls ⟨dR,[(.type y5)],[(.ref 31),(.type y5),(.type SL.s5946037652744460706x9),(.type SL.s4278001404047624695x13),(.type SL.s2742458400755230247x6)],30,dR,.true,[],[(.ref 44),(.ref 56)],.false,.none,.false⟩),⟨[(.some (.ref 22)),.none,(.some (.str dR 202)),(.some (.str dR 210)),(.some (.builtin SL.s4209523147560561109x18)),(.some (.bool .true))]⟩⟩
noncomputable def o89 (P:Params):Obj:=⟨(.type y0),.none,(.seq ⟨[(.ref 31)]⟩ 0),⟨[]⟩⟩
noncomputable def o90 (P:Params):Obj:=⟨(.type SL.s11030030927630378310x26),.none,(.fields ⟨[(.builtin SL.s10062305145149207511x16),(.type y4)]⟩),⟨[]⟩⟩
noncomputable def o91 (P:Params):Obj:=⟨(.type y3),.none,(.dict ⟨[dE P q12 243 (.str iU 200),dE P q14 245 (.str lC 244),dE P q16 247 (.int 16 246),dE P q17 248 (.ref 54)]⟩ 4),⟨[]⟩⟩
noncomputable def o92 (P:Params):Obj:=⟨(.type y0),.none,(.seq ⟨[]⟩ 0),⟨[]⟩⟩
noncomputable def o93 (P:Params):Obj:=⟨.none,.none,(.fields ⟨[]⟩),⟨[]⟩⟩
noncomputable def o94 (P:Params):Obj:=⟨(.type y1),.none,(.fields ⟨[(.str lC 238),(.str lC 239),(.str aP 240),(.int 16 0),(.int 0 0),(.int 0 0),(.int 0 0),(.int 0 0),(.ref 50),(.bool .false),(.int 181 0),(.ref 51),.none,.none,.none,.none,(.int 241 0),(.int 16 0),(.str aP 242)]⟩),⟨[]⟩⟩
noncomputable def o95 (P:Params):Obj:=⟨(.type SL.s658472552662922059x5),.none,.plain,⟨[(.some (.ref 52)),(.some (.ref 3)),(.some (.ref 49)),.none,(.some (.str iU 200)),.none,(.some (.ref 0))]⟩⟩
noncomputable def o96 (P:Params):Obj:=⟨(.type y0),.none,(.seq ⟨[]⟩ 0),⟨[]⟩⟩
noncomputable def o97 (P:Params):Obj:=⟨(.type y3),.none,(.dict ⟨[dE P q12 243 (.str iU 200),dE P q16 247 (.int 16 246),dE P q17 248 (.ref 54),dE P q53 249 .none]⟩ 2),⟨[]⟩⟩
noncomputable def o98 (P:Params):Obj:=⟨(.type y4),.none,(.cls ⟨lC,[(.ref 31)],[(.ref 56),(.ref 31),(.type y5),(.type SL.s5946037652744460706x9),(.type SL.s4278001404047624695x13),(.type SL.s2742458400755230247x6)],55,lC,.true,[],[],.false,.none,.false⟩),⟨[(.some (.ref 47)),.none,(.some (.str lC 236)),(.some (.str lC 244)),(.some (.builtin SL.s4209523147560561109x18)),(.some (.bool .true))]⟩⟩
noncomputable def o99 (P:Params):Obj:=⟨(.type SL.s4290257624100764138x5),.none,(.fields ⟨[(.ref 56),(.ref 56),(.ref 56)]⟩),⟨[]⟩⟩
noncomputable def tE (P:Params):Obj:=⟨(.type SL.s11030030927630378310x26),.none,(.fields ⟨[(.builtin SL.s4860613602091757760x24),(.ref 56)]⟩),⟨[]⟩⟩
noncomputable def FT (P:Params):Obj:=⟨(.type y3),.none,(.dict ⟨[dE P pG 165 (.str iU 200),dE P q53 166 .none,dE P q65 167 .none,dE P q66 168 (.builtin SL.s7097527257260152453x26),dE P q67 169 .none,dE P q0 170 (.ref 6),dE P q68 171 (.ref 4),dE P q69 173 (.str aP 172),dE P q70 174 .none,dE P kC 199 (.ref 21),dE P dR 219 (.ref 31),dE P kB 235 (.ref 44),dE P lC 251 (.ref 56),dE P z75 267 (.ref 68)]⟩ 14),⟨[]⟩⟩
noncomputable def FS (P:Params):Obj:=⟨.none,.none,(.fields ⟨[(.int 2 0),(.int 0 0),(.ref 20),(.int 12 0),(.int 0 0),(.ref 27),(.int 14 0),(.int 0 0),(.ref 40),(.int 16 0),(.int 0 0),(.ref 52),(.int 18 0),(.int 0 0),(.ref 64)]⟩),⟨[]⟩⟩
noncomputable def FR (P:Params):Obj:=⟨(.type y4),.none,(.cls ⟨dR,[(.type y5)],[(.ref 31),(.type y5),(.type SL.s5946037652744460706x9),(.type SL.s4278001404047624695x13),(.type SL.s2742458400755230247x6)],30,dR,.true,[],[(.ref 44),(.ref 56),(.ref 68)],.false,.none,.false⟩),⟨[(.some (.ref 22)),.none,(.some (.str dR 202)),(.some (.str dR 210)),(.some (.builtin SL.s4209523147560561109x18)),(.some (.bool .true))]⟩⟩
noncomputable def tD (P:Params):Obj:=⟨(.type y0),.none,(.seq ⟨[(.ref 31)]⟩ 0),⟨[]⟩⟩
noncomputable def vQ (P:Params):Obj:=⟨(.type SL.s11030030927630378310x26),.none,(.fields ⟨[(.builtin SL.s10062305145149207511x16),(.type y4)]⟩),⟨[]⟩⟩
noncomputable def vP (P:Params):Obj:=⟨(.type y3),.none,(.dict ⟨[dE P q12 259 (.str iU 200),dE P q14 261 (.str z75 260),dE P q16 263 (.int 18 262),dE P q17 264 (.ref 66)]⟩ 4),⟨[]⟩⟩
noncomputable def vO (P:Params):Obj:=⟨(.type y0),.none,(.seq ⟨[]⟩ 0),⟨[]⟩⟩
noncomputable def vN (P:Params):Obj:=⟨.none,.none,(.fields ⟨[]⟩),⟨[]⟩⟩
noncomputable def vM (P:Params):Obj:=⟨(.type y1),.none,(.fields ⟨[(.str z75 254),(.str z75 255),(.str aP 256),(.int 18 0),(.int 0 0),(.int 0 0),(.int 0 0),(.int 0 0),(.ref 62),(.bool .false),(.int 181 0),(.ref 63),.none,.none,.none,.none,(.int 257 0),(.int 18 0),(.str aP 258)]⟩),⟨[]⟩⟩
noncomputable def vL (P:Params):Obj:=⟨(.type SL.s658472552662922059x5),.none,.plain,⟨[(.some (.ref 64)),(.some (.ref 3)),(.some (.ref 61)),.none,(.some (.str iU 200)),.none,(.some (.ref 0))]⟩⟩
noncomputable def tC (P:Params):Obj:=⟨(.type y0),.none,(.seq ⟨[]⟩ 0),⟨[]⟩⟩
noncomputable def tB (P:Params):Obj:=⟨(.type y3),.none,(.dict ⟨[dE P q12 259 (.str iU 200),dE P q16 263 (.int 18 262),dE P q17 264 (.ref 66),dE P q53 265 .none]⟩ 2),⟨[]⟩⟩
noncomputable def tA (P:Params):Obj:=⟨(.type y4),.none,(.cls ⟨z75,[(.ref 31)],[(.ref 68),(.ref 31),(.type y5),(.type SL.s5946037652744460706x9),(.type SL.s4278001404047624695x13),(.type SL.s2742458400755230247x6)],67,z75,.true,[],[],.false,.none,.false⟩),⟨[(.some (.ref 59)),.none,(.some (.str z75 252)),(.some (.str z75 260)),(.some (.builtin SL.s4209523147560561109x18)),(.some (.bool .true))]⟩⟩
noncomputable def vK (P:Params):Obj:=⟨(.type SL.s4290257624100764138x5),.none,(.fields ⟨[(.ref 68),(.ref 68),(.ref 68)]⟩),⟨[]⟩⟩
noncomputable def vJ (P:Params):Obj:=⟨(.type SL.s11030030927630378310x26),.none,(.fields ⟨[(.builtin SL.s4860613602091757760x24),(.ref 68)]⟩),⟨[]⟩⟩
noncomputable def FQ (P:Params):Obj:=⟨(.type y3),.none,(.dict ⟨[dE P pG 165 (.str tn 312),dE P q53 166 .none,dE P q65 167 .none,dE P q66 168 (.builtin SL.s7097527257260152453x26),dE P q67 169 .none,dE P q0 170 (.ref 6),dE P q68 171 (.ref 4),dE P q69 173 (.str aP 172),dE P q70 174 .none,dE P kC 199 (.ref 21),dE P dR 219 (.ref 31),dE P kB 235 (.ref 44),dE P lC 251 (.ref 56),dE P z75 267 (.ref 68),dE P mV 283 (.ref 80),dE P ud 287 (.int 8 286),dE P ou 294 (.ref 89),dE P on 301 (.ref 96),dE P ow 311 (.ref 103),dE P oq 319 (.ref 108),dE P ot 325 (.ref 113)]⟩ 21),⟨[]⟩⟩
noncomputable def FP (P:Params):Obj:=⟨.none,.none,(.fields ⟨[(.int 2 0),(.int 0 0),(.ref 20),(.int 12 0),(.int 0 0),(.ref 27),(.int 14 0),(.int 0 0),(.ref 40),(.int 16 0),(.int 0 0),(.ref 52),(.int 18 0),(.int 0 0),(.ref 64),(.int 20 0),(.int 0 0),(.ref 76),(.int 24 0),(.int 0 0),(.ref 88),(.int 27 0),(.int 0 0),(.ref 95),(.int 30 0),(.int 0 0),(.ref 102),(.int 38 0),(.int 0 0),(.ref 107),(.int 40 0),(.int 0 0),(.ref 112)]⟩),⟨[]⟩⟩
noncomputable def vI (P:Params):Obj:=⟨(.type y4),.none,(.cls ⟨dR,[(.type y5)],[(.ref 31),(.type y5),(.type SL.s5946037652744460706x9),(.type SL.s4278001404047624695x13),(.type SL.s2742458400755230247x6)],30,dR,.true,[],[(.ref 44),(.ref 56),(.ref 68),(.ref 80)],.false,.none,.false⟩),⟨[(.some (.ref 22)),.none,(.some (.str dR 202)),(.some (.str dR 210)),(.some (.builtin SL.s4209523147560561109x18)),(.some (.bool .true))]⟩⟩
noncomputable def vH (P:Params):Obj:=⟨(.type y0),.none,(.seq ⟨[(.ref 31)]⟩ 0),⟨[]⟩⟩
noncomputable def xv (P:Params):Obj:=⟨(.type SL.s11030030927630378310x26),.none,(.fields ⟨[(.builtin SL.s10062305145149207511x16),(.type y4)]⟩),⟨[]⟩⟩
noncomputable def xu (P:Params):Obj:=⟨(.type y3),.none,(.dict ⟨[dE P q12 275 (.str iU 200),dE P q14 277 (.str mV 276),dE P q16 279 (.int 20 278),dE P q17 280 (.ref 78)]⟩ 4),⟨[]⟩⟩
noncomputable def xt (P:Params):Obj:=⟨(.type y0),.none,(.seq ⟨[]⟩ 0),⟨[]⟩⟩
noncomputable def xr (P:Params):Obj:=⟨.none,.none,(.fields ⟨[]⟩),⟨[]⟩⟩
noncomputable def xq (P:Params):Obj:=⟨(.type y1),.none,(.fields ⟨[(.str mV 270),(.str mV 271),(.str aP 272),(.int 20 0),(.int 0 0),(.int 0 0),(.int 0 0),(.int 0 0),(.ref 74),(.bool .false),(.int 181 0),(.ref 75),.none,.none,.none,.none,(.int 273 0),(.int 20 0),(.str aP 274)]⟩),⟨[]⟩⟩
noncomputable def xp (P:Params):Obj:=⟨(.type SL.s658472552662922059x5),.none,.plain,⟨[(.some (.ref 76)),(.some (.ref 3)),(.some (.ref 73)),.none,(.some (.str iU 200)),.none,(.some (.ref 0))]⟩⟩
noncomputable def vG (P:Params):Obj:=⟨(.type y0),.none,(.seq ⟨[]⟩ 0),⟨[]⟩⟩
noncomputable def vF (P:Params):Obj:=⟨(.type y3),.none,(.dict ⟨[dE P q12 275 (.str iU 200),dE P q16 279 (.int 20 278),dE P q17 280 (.ref 78),dE P q53 281 .none]⟩ 2),⟨[]⟩⟩
noncomputable def vE (P:Params):Obj:=⟨(.type y4),.none,(.cls ⟨mV,[(.ref 31)],[(.ref 80),(.ref 31),(.type y5),(.type SL.s5946037652744460706x9),(.type SL.s4278001404047624695x13),(.type SL.s2742458400755230247x6)],79,mV,.true,[],[],.false,.none,.false⟩),⟨[(.some (.ref 71)),.none,(.some (.str mV 268)),(.some (.str mV 276)),(.some (.builtin SL.s4209523147560561109x18)),(.some (.bool .true))]⟩⟩
noncomputable def xl (P:Params):Obj:=⟨(.type SL.s4290257624100764138x5),.none,(.fields ⟨[(.ref 80),(.ref 80),(.ref 80)]⟩),⟨[]⟩⟩
noncomputable def xk (P:Params):Obj:=⟨(.type SL.s11030030927630378310x26),.none,(.fields ⟨[(.builtin SL.s4860613602091757760x24),(.ref 80)]⟩),⟨[]⟩⟩
noncomputable def vD (P:Params):Obj:=⟨(.type y0),.none,(.seq ⟨[]⟩ 0),⟨[]⟩⟩
noncomputable def xj (P:Params):Obj:=⟨.none,.none,(.fields ⟨[]⟩),⟨[]⟩⟩
noncomputable def vC (P:Params):Obj:=⟨(.type y0),.none,(.seq ⟨[(.str rS 291)]⟩ 0),⟨[]⟩⟩
noncomputable def vB (P:Params):Obj:=⟨(.type y0),.none,(.seq ⟨[]⟩ 0),⟨[]⟩⟩
noncomputable def xi (P:Params):Obj:=⟨.none,.none,(.func ⟨ou,ou,(fA (st 10)),(.stmts (fB (st 10))),(fS (st 10)),0,[],.none,.none,.none,.none,.none,.none,.none,0⟩),⟨[]⟩⟩
noncomputable def vA (P:Params):Obj:=⟨(.type y1),.none,(.fields ⟨[(.str ou 288),(.str ou 289),(.str aP 290),(.int 24 0),(.int 1 0),(.int 0 0),(.int 0 0),(.int 3 0),(.ref 83),(.bool .true),(.int 181 0),(.ref 84),.none,(.ref 85),(.ref 86),(.ref 87),(.int 292 0),(.int 24 0),(.str aP 293)]⟩),⟨[]⟩⟩
noncomputable def vz (P:Params):Obj:=⟨(.type y2),.none,(.func ⟨ou,ou,(fA (st 10)),(.stmts (fB (st 10))),(fS (st 10)),3,[],.none,.none,.none,(.str xy 284),.none,(.ref 88),.none,0⟩),⟨[]⟩⟩
noncomputable def vy (P:Params):Obj:=⟨(.type y0),.none,(.seq ⟨[]⟩ 0),⟨[]⟩⟩
noncomputable def xh (P:Params):Obj:=⟨.none,.none,(.fields ⟨[]⟩),⟨[]⟩⟩
noncomputable def vv (P:Params):Obj:=⟨(.type y0),.none,(.seq ⟨[(.str rS 298)]⟩ 0),⟨[]⟩⟩
noncomputable def vt (P:Params):Obj:=⟨(.type y0),.none,(.seq ⟨[]⟩ 0),⟨[]⟩⟩
noncomputable def xg (P:Params):Obj:=⟨.none,.none,(.func ⟨on,on,(fA (st 11)),(.stmts (fB (st 11))),(fS (st 11)),0,[],.none,.none,.none,.none,.none,.none,.none,0⟩),⟨[]⟩⟩
noncomputable def vr (P:Params):Obj:=⟨(.type y1),.none,(.fields ⟨[(.str on 295),(.str on 296),(.str aP 297),(.int 27 0),(.int 1 0),(.int 0 0),(.int 0 0),(.int 3 0),(.ref 90),(.bool .true),(.int 181 0),(.ref 91),.none,(.ref 92),(.ref 93),(.ref 94),(.int 299 0),(.int 27 0),(.str aP 300)]⟩),⟨[]⟩⟩
noncomputable def vq (P:Params):Obj:=⟨(.type y2),.none,(.func ⟨on,on,(fA (st 11)),(.stmts (fB (st 11))),(fS (st 11)),3,[],.none,.none,.none,(.str xy 284),.none,(.ref 95),.none,0⟩),⟨[]⟩⟩
noncomputable def vp (P:Params):Obj:=⟨(.type y0),.none,(.seq ⟨[]⟩ 0),⟨[]⟩⟩
noncomputable def xf (P:Params):Obj:=⟨.none,.none,(.fields ⟨[]⟩),⟨[]⟩⟩
noncomputable def vn (P:Params):Obj:=⟨(.type y0),.none,(.seq ⟨[(.str rS 305),(.str BX 306),(.str xA 307),(.str BZ 308)]⟩ 0),⟨[]⟩⟩
noncomputable def vm (P:Params):Obj:=⟨(.type y0),.none,(.seq ⟨[]⟩ 0),⟨[]⟩⟩
noncomputable def xe (P:Params):Obj:=⟨.none,.none,(.func ⟨ow,ow,(fA (st 12)),(.stmts (fB (st 12))),(fS (st 12)),0,[],.none,.none,.none,.none,.none,.none,.none,0⟩),⟨[]⟩⟩
noncomputable def vk (P:Params):Obj:=⟨(.type y1),.none,(.fields ⟨[(.str ow 302),(.str ow 303),(.str aP 304),(.int 30 0),(.int 1 0),(.int 0 0),(.int 0 0),(.int 3 0),(.ref 97),(.bool .true),(.int 181 0),(.ref 98),.none,(.ref 99),(.ref 100),(.ref 101),(.int 309 0),(.int 30 0),(.str aP 310)]⟩),⟨[]⟩⟩
noncomputable def vj (P:Params):Obj:=⟨(.type y2),.none,(.func ⟨ow,ow,(fA (st 12)),(.stmts (fB (st 12))),(fS (st 12)),3,[],.none,.none,.none,(.str xy 284),.none,(.ref 102),.none,0⟩),⟨[]⟩⟩
noncomputable def vg (P:Params):Obj:=⟨(.type y0),.none,(.seq ⟨[]⟩ 0),⟨[]⟩⟩
noncomputable def xd (P:Params):Obj:=⟨.none,.none,(.fields ⟨[]⟩),⟨[]⟩⟩
noncomputable def xc (P:Params):Obj:=⟨.none,.none,(.func ⟨oq,oq,(fA (st 14)),(.stmts (fB (st 14))),(fS (st 14)),0,[],.none,.none,.none,.none,.none,.none,.none,0⟩),⟨[]⟩⟩
noncomputable def vf (P:Params):Obj:=⟨(.type y1),.none,(.fields ⟨[(.str oq 314),(.str oq 315),(.str aP 316),(.int 38 0),(.int 2 0),(.int 0 0),(.int 0 0),(.int 3 0),(.ref 104),(.bool .true),(.int 181 0),(.ref 105),.none,.none,.none,(.ref 106),(.int 317 0),(.int 38 0),(.str aP 318)]⟩),⟨[]⟩⟩
noncomputable def ve (P:Params):Obj:=⟨(.type y2),.none,(.func ⟨oq,oq,(fA (st 14)),(.stmts (fB (st 14))),(fS (st 14)),3,[],.none,.none,.none,(.str tn 312),.none,(.ref 107),.none,0⟩),⟨[]⟩⟩
noncomputable def vd (P:Params):Obj:=⟨(.type y0),.none,(.seq ⟨[]⟩ 0),⟨[]⟩⟩
noncomputable def wZ (P:Params):Obj:=⟨.none,.none,(.fields ⟨[]⟩),⟨[]⟩⟩
noncomputable def wY (P:Params):Obj:=⟨.none,.none,(.func ⟨ot,ot,(fA (st 15)),(.stmts (fB (st 15))),(fS (st 15)),0,[],.none,.none,.none,.none,.none,.none,.none,0⟩),⟨[]⟩⟩
noncomputable def uZ (P:Params):Obj:=⟨(.type y1),.none,(.fields ⟨[(.str ot 320),(.str ot 321),(.str aP 322),(.int 40 0),(.int 3 0),(.int 0 0),(.int 0 0),(.int 3 0),(.ref 109),(.bool .true),(.int 181 0),(.ref 110),.none,.none,.none,(.ref 111),(.int 323 0),(.int 40 0),(.str aP 324)]⟩),⟨[]⟩⟩
noncomputable def uY (P:Params):Obj:=⟨(.type y2),.none,(.func ⟨ot,ot,(fA (st 15)),(.stmts (fB (st 15))),(fS (st 15)),3,[],.none,.none,.none,(.str tn 312),.none,(.ref 112),.none,0⟩),⟨[]⟩⟩
noncomputable def FO (P:Params):Obj:=⟨(.type y3),.none,(.dict ⟨[dE P pG 165 (.str kD 347),dE P q53 166 .none,dE P q65 167 .none,dE P q66 168 (.builtin SL.s7097527257260152453x26),dE P q67 169 .none,dE P q0 170 (.ref 6),dE P q68 171 (.ref 4),dE P q69 173 (.str aP 172),dE P q70 174 .none,dE P kC 199 (.ref 21),dE P dR 219 (.ref 31),dE P kB 235 (.ref 44),dE P lC 251 (.ref 56),dE P z75 267 (.ref 68),dE P mV 283 (.ref 80),dE P ud 287 (.int 8 286),dE P ou 294 (.ref 89),dE P on 301 (.ref 96),dE P ow 311 (.ref 103),dE P oq 319 (.ref 108),dE P ot 325 (.ref 113),dE P pE 334 (.ref 120),dE P pD 340 (.ref 125),dE P pC 346 (.ref 130)]⟩ 24),⟨[]⟩⟩
noncomputable def FN (P:Params):Obj:=⟨.none,.none,(.fields ⟨[(.int 2 0),(.int 0 0),(.ref 20),(.int 12 0),(.int 0 0),(.ref 27),(.int 14 0),(.int 0 0),(.ref 40),(.int 16 0),(.int 0 0),(.ref 52),(.int 18 0),(.int 0 0),(.ref 64),(.int 20 0),(.int 0 0),(.ref 76),(.int 24 0),(.int 0 0),(.ref 88),(.int 27 0),(.int 0 0),(.ref 95),(.int 30 0),(.int 0 0),(.ref 102),(.int 38 0),(.int 0 0),(.ref 107),(.int 40 0),(.int 0 0),(.ref 112),(.int 43 0),(.int 0 0),(.ref 119),(.int 48 0),(.int 0 0),(.ref 124),(.int 54 0),(.int 0 0),(.ref 129)]⟩),⟨[]⟩⟩
noncomputable def wX (P:Params):Obj:=⟨(.type y0),.none,(.seq ⟨[]⟩ 0),⟨[]⟩⟩
noncomputable def zo (P:Params):Obj:=⟨.none,.none,(.fields ⟨[]⟩),⟨[]⟩⟩
noncomputable def wW (P:Params):Obj:=⟨(.type y0),.none,(.seq ⟨[(.str z59 329),(.str rS 330),(.str z91 331)]⟩ 0),⟨[]⟩⟩
noncomputable def wV (P:Params):Obj:=⟨(.type y0),.none,(.seq ⟨[]⟩ 0),⟨[]⟩⟩
noncomputable def zn (P:Params):Obj:=⟨.none,.none,(.func ⟨pE,pE,(fA (st 16)),(.stmts (fB (st 16))),(fS (st 16)),0,[],.none,.none,.none,.none,.none,.none,.none,0⟩),⟨[]⟩⟩
noncomputable def wU (P:Params):Obj:=⟨(.type y1),.none,(.fields ⟨[(.str pE 326),(.str pE 327),(.str aP 328),(.int 43 0),(.int 2 0),(.int 0 0),(.int 0 0),(.int 3 0),(.ref 114),(.bool .true),(.int 181 0),(.ref 115),.none,(.ref 116),(.ref 117),(.ref 118),(.int 332 0),(.int 43 0),(.str aP 333)]⟩),⟨[]⟩⟩
noncomputable def wR (P:Params):Obj:=⟨(.type y2),.none,(.func ⟨pE,pE,(fA (st 16)),(.stmts (fB (st 16))),(fS (st 16)),3,[],.none,.none,.none,(.str tn 312),.none,(.ref 119),.none,0⟩),⟨[]⟩⟩
noncomputable def wQ (P:Params):Obj:=⟨(.type y0),.none,(.seq ⟨[]⟩ 0),⟨[]⟩⟩
noncomputable def zm (P:Params):Obj:=⟨.none,.none,(.fields ⟨[]⟩),⟨[]⟩⟩
noncomputable def zl (P:Params):Obj:=⟨.none,.none,(.func ⟨pD,pD,(fA (st 17)),(.stmts (fB (st 17))),(fS (st 17)),0,[],.none,.none,.none,.none,.none,.none,.none,0⟩),⟨[]⟩⟩
noncomputable def wP (P:Params):Obj:=⟨(.type y1),.none,(.fields ⟨[(.str pD 335),(.str pD 336),(.str aP 337),(.int 48 0),(.int 1 0),(.int 0 0),(.int 0 0),(.int 3 0),(.ref 121),(.bool .true),(.int 181 0),(.ref 122),.none,.none,.none,(.ref 123),(.int 338 0),(.int 48 0),(.str aP 339)]⟩),⟨[]⟩⟩
noncomputable def wO (P:Params):Obj:=⟨(.type y2),.none,(.func ⟨pD,pD,(fA (st 17)),(.stmts (fB (st 17))),(fS (st 17)),3,[],.none,.none,.none,(.str tn 312),.none,(.ref 124),.none,0⟩),⟨[]⟩⟩
noncomputable def wN (P:Params):Obj:=⟨(.type y0),.none,(.seq ⟨[]⟩ 0),⟨[]⟩⟩
noncomputable def zk (P:Params):Obj:=⟨.none,.none,(.fields ⟨[]⟩),⟨[]⟩⟩
noncomputable def zj (P:Params):Obj:=⟨.none,.none,(.func ⟨pC,pC,(fA (st 18)),(.stmts (fB (st 18))),(fS (st 18)),0,[],.none,.none,.none,.none,.none,.none,.none,0⟩),⟨[]⟩⟩
noncomputable def wM (P:Params):Obj:=⟨(.type y1),.none,(.fields ⟨[(.str pC 341),(.str pC 342),(.str aP 343),(.int 54 0),(.int 2 0),(.int 0 0),(.int 0 0),(.int 3 0),(.ref 126),(.bool .true),(.int 181 0),(.ref 127),.none,.none,.none,(.ref 128),(.int 344 0),(.int 54 0),(.str aP 345)]⟩),⟨[]⟩⟩
noncomputable def wL (P:Params):Obj:=⟨(.type y2),.none,(.func ⟨pC,pC,(fA (st 18)),(.stmts (fB (st 18))),(fS (st 18)),3,[],.none,.none,.none,(.str tn 312),.none,(.ref 129),.none,0⟩),⟨[]⟩⟩
noncomputable def FM (P:Params):Obj:=⟨(.type y3),.none,(.dict ⟨[dE P pG 165 (.str kD 347),dE P q53 166 .none,dE P q65 167 .none,dE P q66 168 (.builtin SL.s7097527257260152453x26),dE P q67 169 .none,dE P q0 170 (.ref 6),dE P q68 171 (.ref 4),dE P q69 173 (.str aP 172),dE P q70 174 .none,dE P kC 199 (.ref 21),dE P dR 219 (.ref 31),dE P kB 235 (.ref 44),dE P lC 251 (.ref 56),dE P z75 267 (.ref 68),dE P mV 283 (.ref 80),dE P ud 287 (.int 8 286),dE P ou 294 (.ref 89),dE P on 301 (.ref 96),dE P ow 311 (.ref 103),dE P oq 319 (.ref 108),dE P ot 325 (.ref 113),dE P pE 334 (.ref 120),dE P pD 340 (.ref 125),dE P pC 346 (.ref 130),dE P z47 444 (.ref 204)]⟩ 25),⟨[]⟩⟩
noncomputable def FL (P:Params):Obj:=⟨.none,.none,(.fields ⟨[(.int 2 0),(.int 0 0),(.ref 20),(.int 12 0),(.int 0 0),(.ref 27),(.int 14 0),(.int 0 0),(.ref 40),(.int 16 0),(.int 0 0),(.ref 52),(.int 18 0),(.int 0 0),(.ref 64),(.int 20 0),(.int 0 0),(.ref 76),(.int 24 0),(.int 0 0),(.ref 88),(.int 27 0),(.int 0 0),(.ref 95),(.int 30 0),(.int 0 0),(.ref 102),(.int 38 0),(.int 0 0),(.ref 107),(.int 40 0),(.int 0 0),(.ref 112),(.int 43 0),(.int 0 0),(.ref 119),(.int 48 0),(.int 0 0),(.ref 124),(.int 54 0),(.int 0 0),(.ref 129),(.int 67 0),(.int 0 0),(.ref 136)]⟩),⟨[]⟩⟩
noncomputable def BP (P:Params):Obj:=⟨(.type y0),.none,(.seq ⟨[]⟩ 0),⟨[]⟩⟩
noncomputable def BO (P:Params):Obj:=⟨(.type SL.s11030030927630378310x26),.none,(.fields ⟨[(.builtin SL.s10062305145149207511x16),(.type y4)]⟩),⟨[]⟩⟩
noncomputable def BM (P:Params):Obj:=⟨(.type y3),.none,(.dict ⟨[dE P q12 356 (.str kD 347),dE P q14 358 (.str z47 357),dE P q16 360 (.int 67 359),dE P ue 368 (.ref 144),dE P z63 378 (.ref 151),dE P z74 387 (.ref 158),dE P z56 395 (.ref 165),dE P z55 401 (.ref 170),dE P z57 408 (.ref 177),dE P z41 414 (.ref 182),dE P z42 420 (.ref 187),dE P z40 427 (.ref 194),dE P z59 434 (.ref 201),dE P q17 437 (.ref 202)]⟩ 14),⟨[]⟩⟩
noncomputable def BL (P:Params):Obj:=⟨(.type y0),.none,(.seq ⟨[]⟩ 0),⟨[]⟩⟩
noncomputable def BK (P:Params):Obj:=⟨.none,.none,(.fields ⟨[(.int 69 0),(.int 4 0),(.ref 143),(.int 75 0),(.int 4 0),(.ref 150),(.int 81 0),(.int 4 0),(.ref 157),(.int 89 0),(.int 4 0),(.ref 164),(.int 93 0),(.int 4 0),(.ref 169),(.int 101 0),(.int 4 0),(.ref 176),(.int 104 0),(.int 4 0),(.ref 181),(.int 107 0),(.int 4 0),(.ref 186),(.int 114 0),(.int 4 0),(.ref 193),(.int 117 0),(.int 4 0),(.ref 200)]⟩),⟨[]⟩⟩
noncomputable def BJ (P:Params):Obj:=⟨(.type y1),.none,(.fields ⟨[(.str z47 351),(.str z47 352),(.str aP 353),(.int 67 0),(.int 0 0),(.int 0 0),(.int 0 0),(.int 0 0),(.ref 134),(.bool .false),(.int 181 0),(.ref 135),.none,.none,.none,.none,(.int 354 0),(.int 67 0),(.str aP 355)]⟩),⟨[]⟩⟩
noncomputable def BI (P:Params):Obj:=⟨(.type SL.s658472552662922059x5),.none,.plain,⟨[(.some (.ref 136)),(.some (.ref 3)),(.some (.ref 133)),.none,(.some (.str kD 347)),.none,(.some (.ref 0))]⟩⟩
noncomputable def zi (P:Params):Obj:=⟨(.type y0),.none,(.seq ⟨[]⟩ 0),⟨[]⟩⟩
noncomputable def BH (P:Params):Obj:=⟨.none,.none,(.fields ⟨[]⟩),⟨[]⟩⟩
noncomputable def zh (P:Params):Obj:=⟨(.type y0),.none,(.seq ⟨[(.str rZ 364),(.str z87 365)]⟩ 0),⟨[]⟩⟩
noncomputable def zg (P:Params):Obj:=⟨(.type y0),.none,(.seq ⟨[]⟩ 0),⟨[]⟩⟩
noncomputable def BG (P:Params):Obj:=⟨.none,.none,(.func ⟨ue,q58,(fA (stC 20 0)),(.stmts (fB (stC 20 0))),(fS (stC 20 0)),0,[],.none,.none,.none,.none,.none,.none,.none,0⟩),⟨[]⟩⟩
noncomputable def zf (P:Params):Obj:=⟨(.type y1),.none,(.fields ⟨[(.str ue 361),(.str q58 362),(.str aP 363),(.int 69 0),(.int 2 0),(.int 0 0),(.int 0 0),(.int 3 0),(.ref 138),(.bool .true),(.int 181 0),(.ref 139),.none,(.ref 140),(.ref 141),(.ref 142),(.int 366 0),(.int 69 0),(.str aP 367)]⟩),⟨[]⟩⟩
noncomputable def ze (P:Params):Obj:=⟨(.type y2),.none,(.func ⟨ue,q58,(fA (stC 20 0)),(.stmts (fB (stC 20 0))),(fS (stC 20 0)),3,[],.none,.none,.none,(.str kD 347),.none,(.ref 143),.none,0⟩),⟨[]⟩⟩
noncomputable def zd (P:Params):Obj:=⟨(.type y0),.none,(.seq ⟨[]⟩ 0),⟨[]⟩⟩
noncomputable def BF (P:Params):Obj:=⟨.none,.none,(.fields ⟨[]⟩),⟨[]⟩⟩
noncomputable def zc (P:Params):Obj:=⟨(.type y0),.none,(.seq ⟨[(.str rZ 372),(.str rS 373),(.str Ca 374),(.str Ab 375)]⟩ 0),⟨[]⟩⟩
noncomputable def zb (P:Params):Obj:=⟨(.type y0),.none,(.seq ⟨[]⟩ 0),⟨[]⟩⟩
noncomputable def BE (P:Params):Obj:=⟨.none,.none,(.func ⟨z63,q51,(fA (stC 20 1)),(.stmts (fB (stC 20 1))),(fS (stC 20 1)),0,[],.none,.none,.none,.none,.none,.none,.none,0⟩),⟨[]⟩⟩
noncomputable def za (P:Params):Obj:=⟨(.type y1),.none,(.fields ⟨[(.str z63 369),(.str q51 370),(.str aP 371),(.int 75 0),(.int 3 0),(.int 0 0),(.int 0 0),(.int 3 0),(.ref 145),(.bool .true),(.int 181 0),(.ref 146),.none,(.ref 147),(.ref 148),(.ref 149),(.int 376 0),(.int 75 0),(.str aP 377)]⟩),⟨[]⟩⟩
noncomputable def yZ (P:Params):Obj:=⟨(.type y2),.none,(.func ⟨z63,q51,(fA (stC 20 1)),(.stmts (fB (stC 20 1))),(fS (stC 20 1)),3,[],.none,.none,.none,(.str kD 347),.none,(.ref 150),.none,0⟩),⟨[]⟩⟩
noncomputable def yY (P:Params):Obj:=⟨(.type y0),.none,(.seq ⟨[]⟩ 0),⟨[]⟩⟩
noncomputable def BD (P:Params):Obj:=⟨.none,.none,(.fields ⟨[]⟩),⟨[]⟩⟩
noncomputable def yX (P:Params):Obj:=⟨(.type y0),.none,(.seq ⟨[(.str rZ 382),(.str rS 383),(.str Ab 384)]⟩ 0),⟨[]⟩⟩
noncomputable def yW (P:Params):Obj:=⟨(.type y0),.none,(.seq ⟨[]⟩ 0),⟨[]⟩⟩
noncomputable def BC (P:Params):Obj:=⟨.none,.none,(.func ⟨z74,q83,(fA (stC 20 2)),(.stmts (fB (stC 20 2))),(fS (stC 20 2)),0,[],.none,.none,.none,.none,.none,.none,.none,0⟩),⟨[]⟩⟩
noncomputable def yV (P:Params):Obj:=⟨(.type y1),.none,(.fields ⟨[(.str z74 379),(.str q83 380),(.str aP 381),(.int 81 0),(.int 2 0),(.int 0 0),(.int 0 0),(.int 3 0),(.ref 152),(.bool .true),(.int 181 0),(.ref 153),.none,(.ref 154),(.ref 155),(.ref 156),(.int 385 0),(.int 81 0),(.str aP 386)]⟩),⟨[]⟩⟩
noncomputable def yU (P:Params):Obj:=⟨(.type y2),.none,(.func ⟨z74,q83,(fA (stC 20 2)),(.stmts (fB (stC 20 2))),(fS (stC 20 2)),3,[],.none,.none,.none,(.str kD 347),.none,(.ref 157),.none,0⟩),⟨[]⟩⟩
noncomputable def yT (P:Params):Obj:=⟨(.type y0),.none,(.seq ⟨[]⟩ 0),⟨[]⟩⟩
noncomputable def BB (P:Params):Obj:=⟨.none,.none,(.fields ⟨[]⟩),⟨[]⟩⟩
noncomputable def yS (P:Params):Obj:=⟨(.type y0),.none,(.seq ⟨[(.str rZ 391),(.str rS 392)]⟩ 0),⟨[]⟩⟩
noncomputable def yR (P:Params):Obj:=⟨(.type y0),.none,(.seq ⟨[]⟩ 0),⟨[]⟩⟩
noncomputable def BA (P:Params):Obj:=⟨.none,.none,(.func ⟨z56,Cn,(fA (stC 20 3)),(.stmts (fB (stC 20 3))),(fS (stC 20 3)),0,[],.none,.none,.none,.none,.none,.none,.none,0⟩),⟨[]⟩⟩
noncomputable def yQ (P:Params):Obj:=⟨(.type y1),.none,(.fields ⟨[(.str z56 388),(.str Cn 389),(.str aP 390),(.int 89 0),(.int 2 0),(.int 0 0),(.int 0 0),(.int 3 0),(.ref 159),(.bool .true),(.int 181 0),(.ref 160),.none,(.ref 161),(.ref 162),(.ref 163),(.int 393 0),(.int 89 0),(.str aP 394)]⟩),⟨[]⟩⟩
noncomputable def yP (P:Params):Obj:=⟨(.type y2),.none,(.func ⟨z56,Cn,(fA (stC 20 3)),(.stmts (fB (stC 20 3))),(fS (stC 20 3)),3,[],.none,.none,.none,(.str kD 347),.none,(.ref 164),.none,0⟩),⟨[]⟩⟩
noncomputable def yO (P:Params):Obj:=⟨(.type y0),.none,(.seq ⟨[]⟩ 0),⟨[]⟩⟩
noncomputable def Bz (P:Params):Obj:=⟨.none,.none,(.fields ⟨[]⟩),⟨[]⟩⟩
noncomputable def Bx (P:Params):Obj:=⟨.none,.none,(.func ⟨z55,q25,(fA (stC 20 4)),(.stmts (fB (stC 20 4))),(fS (stC 20 4)),0,[],.none,.none,.none,.none,.none,.none,.none,0⟩),⟨[]⟩⟩
noncomputable def yN (P:Params):Obj:=⟨(.type y1),.none,(.fields ⟨[(.str z55 396),(.str q25 397),(.str aP 398),(.int 93 0),(.int 2 0),(.int 0 0),(.int 0 0),(.int 3 0),(.ref 166),(.bool .true),(.int 181 0),(.ref 167),.none,.none,.none,(.ref 168),(.int 399 0),(.int 93 0),(.str aP 400)]⟩),⟨[]⟩⟩
noncomputable def yM (P:Params):Obj:=⟨(.type y2),.none,(.func ⟨z55,q25,(fA (stC 20 4)),(.stmts (fB (stC 20 4))),(fS (stC 20 4)),3,[],.none,.none,.none,(.str kD 347),.none,(.ref 169),.none,0⟩),⟨[]⟩⟩
noncomputable def yL (P:Params):Obj:=⟨(.type y0),.none,(.seq ⟨[]⟩ 0),⟨[]⟩⟩
noncomputable def Bw (P:Params):Obj:=⟨.none,.none,(.fields ⟨[]⟩),⟨[]⟩⟩
noncomputable def yK (P:Params):Obj:=⟨(.type y0),.none,(.seq ⟨[(.str rZ 405)]⟩ 0),⟨[]⟩⟩
noncomputable def yJ (P:Params):Obj:=⟨(.type y0),.none,(.seq ⟨[]⟩ 0),⟨[]⟩⟩
noncomputable def Bv (P:Params):Obj:=⟨.none,.none,(.func ⟨z57,q89,(fA (stC 20 5)),(.stmts (fB (stC 20 5))),(fS (stC 20 5)),0,[],.none,.none,.none,.none,.none,.none,.none,0⟩),⟨[]⟩⟩
noncomputable def yI (P:Params):Obj:=⟨(.type y1),.none,(.fields ⟨[(.str z57 402),(.str q89 403),(.str aP 404),(.int 101 0),(.int 1 0),(.int 0 0),(.int 0 0),(.int 3 0),(.ref 171),(.bool .true),(.int 181 0),(.ref 172),.none,(.ref 173),(.ref 174),(.ref 175),(.int 406 0),(.int 101 0),(.str aP 407)]⟩),⟨[]⟩⟩
noncomputable def yH (P:Params):Obj:=⟨(.type y2),.none,(.func ⟨z57,q89,(fA (stC 20 5)),(.stmts (fB (stC 20 5))),(fS (stC 20 5)),3,[],.none,.none,.none,(.str kD 347),.none,(.ref 176),.none,0⟩),⟨[]⟩⟩
noncomputable def yG (P:Params):Obj:=⟨(.type y0),.none,(.seq ⟨[]⟩ 0),⟨[]⟩⟩
noncomputable def Bu (P:Params):Obj:=⟨.none,.none,(.fields ⟨[]⟩),⟨[]⟩⟩
noncomputable def Bt (P:Params):Obj:=⟨.none,.none,(.func ⟨z41,q84,(fA (stC 20 6)),(.stmts (fB (stC 20 6))),(fS (stC 20 6)),0,[],.none,.none,.none,.none,.none,.none,.none,0⟩),⟨[]⟩⟩
noncomputable def yF (P:Params):Obj:=⟨(.type y1),.none,(.fields ⟨[(.str z41 409),(.str q84 410),(.str aP 411),(.int 104 0),(.int 1 0),(.int 0 0),(.int 0 0),(.int 3 0),(.ref 178),(.bool .true),(.int 181 0),(.ref 179),.none,.none,.none,(.ref 180),(.int 412 0),(.int 104 0),(.str aP 413)]⟩),⟨[]⟩⟩
noncomputable def yE (P:Params):Obj:=⟨(.type y2),.none,(.func ⟨z41,q84,(fA (stC 20 6)),(.stmts (fB (stC 20 6))),(fS (stC 20 6)),3,[],.none,.none,.none,(.str kD 347),.none,(.ref 181),.none,0⟩),⟨[]⟩⟩
noncomputable def yD (P:Params):Obj:=⟨(.type y0),.none,(.seq ⟨[]⟩ 0),⟨[]⟩⟩
noncomputable def Bs (P:Params):Obj:=⟨.none,.none,(.fields ⟨[]⟩),⟨[]⟩⟩
noncomputable def Br (P:Params):Obj:=⟨.none,.none,(.func ⟨z42,q20,(fA (stC 20 7)),(.stmts (fB (stC 20 7))),(fS (stC 20 7)),0,[],.none,.none,.none,.none,.none,.none,.none,0⟩),⟨[]⟩⟩
noncomputable def yC (P:Params):Obj:=⟨(.type y1),.none,(.fields ⟨[(.str z42 415),(.str q20 416),(.str aP 417),(.int 107 0),(.int 1 0),(.int 0 0),(.int 0 0),(.int 3 0),(.ref 183),(.bool .true),(.int 181 0),(.ref 184),.none,.none,.none,(.ref 185),(.int 418 0),(.int 107 0),(.str aP 419)]⟩),⟨[]⟩⟩
noncomputable def yB (P:Params):Obj:=⟨(.type y2),.none,(.func ⟨z42,q20,(fA (stC 20 7)),(.stmts (fB (stC 20 7))),(fS (stC 20 7)),3,[],.none,.none,.none,(.str kD 347),.none,(.ref 186),.none,0⟩),⟨[]⟩⟩
noncomputable def yA (P:Params):Obj:=⟨(.type y0),.none,(.seq ⟨[]⟩ 0),⟨[]⟩⟩
noncomputable def Bq (P:Params):Obj:=⟨.none,.none,(.fields ⟨[]⟩),⟨[]⟩⟩
noncomputable def yz (P:Params):Obj:=⟨(.type y0),.none,(.seq ⟨[(.str rZ 424)]⟩ 0),⟨[]⟩⟩
noncomputable def yy (P:Params):Obj:=⟨(.type y0),.none,(.seq ⟨[]⟩ 0),⟨[]⟩⟩
noncomputable def Bp (P:Params):Obj:=⟨.none,.none,(.func ⟨z40,q34,(fA (stC 20 8)),(.stmts (fB (stC 20 8))),(fS (stC 20 8)),0,[],.none,.none,.none,.none,.none,.none,.none,0⟩),⟨[]⟩⟩
noncomputable def yx (P:Params):Obj:=⟨(.type y1),.none,(.fields ⟨[(.str z40 421),(.str q34 422),(.str aP 423),(.int 114 0),(.int 1 0),(.int 0 0),(.int 0 0),(.int 3 0),(.ref 188),(.bool .true),(.int 181 0),(.ref 189),.none,(.ref 190),(.ref 191),(.ref 192),(.int 425 0),(.int 114 0),(.str aP 426)]⟩),⟨[]⟩⟩
noncomputable def yw (P:Params):Obj:=⟨(.type y2),.none,(.func ⟨z40,q34,(fA (stC 20 8)),(.stmts (fB (stC 20 8))),(fS (stC 20 8)),3,[],.none,.none,.none,(.str kD 347),.none,(.ref 193),.none,0⟩),⟨[]⟩⟩
noncomputable def yv (P:Params):Obj:=⟨(.type y0),.none,(.seq ⟨[]⟩ 0),⟨[]⟩⟩
noncomputable def Bo (P:Params):Obj:=⟨.none,.none,(.fields ⟨[]⟩),⟨[]⟩⟩
noncomputable def yu (P:Params):Obj:=⟨(.type y0),.none,(.seq ⟨[(.str rZ 431)]⟩ 0),⟨[]⟩⟩
noncomputable def yt (P:Params):Obj:=⟨(.type y0),.none,(.seq ⟨[]⟩ 0),⟨[]⟩⟩
noncomputable def Bn (P:Params):Obj:=⟨.none,.none,(.func ⟨z59,q31,(fA (stC 20 9)),(.stmts (fB (stC 20 9))),(fS (stC 20 9)),0,[],.none,.none,.none,.none,.none,.none,.none,0⟩),⟨[]⟩⟩
noncomputable def yr (P:Params):Obj:=⟨(.type y1),.none,(.fields ⟨[(.str z59 428),(.str q31 429),(.str aP 430),(.int 117 0),(.int 1 0),(.int 0 0),(.int 0 0),(.int 3 0),(.ref 195),(.bool .true),(.int 181 0),(.ref 196),.none,(.ref 197),(.ref 198),(.ref 199),(.int 432 0),(.int 117 0),(.str aP 433)]⟩),⟨[]⟩⟩
noncomputable def yq (P:Params):Obj:=⟨(.type y2),.none,(.func ⟨z59,q31,(fA (stC 20 9)),(.stmts (fB (stC 20 9))),(fS (stC 20 9)),3,[],.none,.none,.none,(.str kD 347),.none,(.ref 200),.none,0⟩),⟨[]⟩⟩
noncomputable def yp (P:Params):Obj:=⟨(.type y0),.none,(.seq ⟨[(.str z87 435),(.str Cb 436)]⟩ 0),⟨[]⟩⟩
noncomputable def yo (P:Params):Obj:=⟨(.type y3),.none,(.dict ⟨[dE P q12 356 (.str kD 347),dE P q16 360 (.int 67 359),dE P ue 368 (.ref 144),dE P z63 378 (.ref 151),dE P z74 387 (.ref 158),dE P z56 395 (.ref 165),dE P z55 401 (.ref 170),dE P z57 408 (.ref 177),dE P z41 414 (.ref 182),dE P z42 420 (.ref 187),dE P z40 427 (.ref 194),dE P z59 434 (.ref 201),dE P q17 437 (.ref 202),dE P Ez 439 (.ref 205),dE P q87 441 (.ref 206),dE P q53 442 .none]⟩ 4),⟨[]⟩⟩
noncomputable def yn (P:Params):Obj:=⟨(.type y4),.none,(.cls ⟨z47,[(.type SL.s2742458400755230247x6)],[(.ref 204),(.type SL.s2742458400755230247x6)],203,z47,.true,[],[],.false,.none,.false⟩),⟨[.none,.none,(.some (.str z47 349)),(.some (.str z47 357)),(.some (.builtin SL.s11443829558043349243x14)),(.some (.bool .true))]⟩⟩
noncomputable def ym (P:Params):Obj:=⟨(.type SL.s14755015743595814543x17),.none,(.fields ⟨[(.str Ez 438),(.ref 204),(.builtin SL.s6511155373996960695x17),(.builtin SL.s12411053484034534018x21)]⟩),⟨[]⟩⟩
noncomputable def yl (P:Params):Obj:=⟨(.type SL.s14755015743595814543x17),.none,(.fields ⟨[(.str q87 440),(.ref 204),(.builtin SL.s10220274742760427390x26),.none]⟩),⟨[]⟩⟩
noncomputable def Bm (P:Params):Obj:=⟨(.type SL.s4290257624100764138x5),.none,(.fields ⟨[(.ref 204),(.ref 204),(.ref 204)]⟩),⟨[]⟩⟩
noncomputable def Bl (P:Params):Obj:=⟨(.type SL.s11030030927630378310x26),.none,(.fields ⟨[(.builtin SL.s4860613602091757760x24),(.ref 204)]⟩),⟨[]⟩⟩
noncomputable def FK (P:Params):Obj:=⟨(.type y3),.none,(.dict ⟨[dE P pG 165 (.str gO 478),dE P q53 166 .none,dE P q65 167 .none,dE P q66 168 (.builtin SL.s7097527257260152453x26),dE P q67 169 .none,dE P q0 170 (.ref 6),dE P q68 171 (.ref 4),dE P q69 173 (.str aP 172),dE P q70 174 .none,dE P kC 199 (.ref 21),dE P dR 219 (.ref 31),dE P kB 235 (.ref 44),dE P lC 251 (.ref 56),dE P z75 267 (.ref 68),dE P mV 283 (.ref 80),dE P ud 287 (.int 8 286),dE P ou 294 (.ref 89),dE P on 301 (.ref 96),dE P ow 311 (.ref 103),dE P oq 319 (.ref 108),dE P ot 325 (.ref 113),dE P pE 334 (.ref 120),dE P pD 340 (.ref 125),dE P pC 346 (.ref 130),dE P z47 444 (.ref 204),dE P z54 452 (.ref 213),dE P z96 462 (.ref 220),dE P z53 477 (.ref 227),dE P z5 486 (.ref 234),dE P z46 494 (.ref 241),dE P z79 503 (.ref 248),dE P z68 511 (.ref 255),dE P z45 518 (.ref 262),dE P z70 525 (.ref 269),dE P z71 531 (.ref 274),dE P z61 537 (.ref 279),dE P z65 543 (.ref 284),dE P z49 549 (.ref 289)]⟩ 38),⟨[]⟩⟩
noncomputable def FJ (P:Params):Obj:=⟨.none,.none,(.fields ⟨[(.int 2 0),(.int 0 0),(.ref 20),(.int 12 0),(.int 0 0),(.ref 27),(.int 14 0),(.int 0 0),(.ref 40),(.int 16 0),(.int 0 0),(.ref 52),(.int 18 0),(.int 0 0),(.ref 64),(.int 20 0),(.int 0 0),(.ref 76),(.int 24 0),(.int 0 0),(.ref 88),(.int 27 0),(.int 0 0),(.ref 95),(.int 30 0),(.int 0 0),(.ref 102),(.int 38 0),(.int 0 0),(.ref 107),(.int 40 0),(.int 0 0),(.ref 112),(.int 43 0),(.int 0 0),(.ref 119),(.int 48 0),(.int 0 0),(.ref 124),(.int 54 0),(.int 0 0),(.ref 129),(.int 67 0),(.int 0 0),(.ref 136),(.int 120 0),(.int 0 0),(.ref 212),(.int 126 0),(.int 0 0),(.ref 219),(.int 136 0),(.int 0 0),(.ref 226),(.int 158 0),(.int 0 0),(.ref 233),(.int 160 0),(.int 0 0),(.ref 240),(.int 164 0),(.int 0 0),(.ref 247),(.int 169 0),(.int 0 0),(.ref 254),(.int 175 0),(.int 0 0),(.ref 261),(.int 179 0),(.int 0 0),(.ref 268),(.int 183 0),(.int 0 0),(.ref 273),(.int 194 0),(.int 0 0),(.ref 278),(.int 199 0),(.int 0 0),(.ref 283),(.int 205 0),(.int 0 0),(.ref 288)]⟩),⟨[]⟩⟩
noncomputable def Bk (P:Params):Obj:=⟨(.type y0),.none,(.seq ⟨[]⟩ 0),⟨[]⟩⟩
noncomputable def Dz (P:Params):Obj:=⟨.none,.none,(.fields ⟨[]⟩),⟨[]⟩⟩
noncomputable def Dy (P:Params):Obj:=⟨.none,.none,(.func ⟨z54,z54,(fA (st 22)),(.stmts (fB (st 22))),(fS (st 22)),0,[],.none,.none,.none,.none,.none,.none,.none,0⟩),⟨[]⟩⟩
noncomputable def Bj (P:Params):Obj:=⟨(.type y1),.none,(.fields ⟨[(.str z54 447),(.str z54 448),(.str aP 449),(.int 120 0),(.int 1 0),(.int 0 0),(.int 0 0),(.int 3 0),(.ref 209),(.bool .true),(.int 181 0),(.ref 210),.none,.none,.none,(.ref 211),(.int 450 0),(.int 120 0),(.str aP 451)]⟩),⟨[]⟩⟩
noncomputable def Bi (P:Params):Obj:=⟨(.type y2),.none,(.func ⟨z54,z54,(fA (st 22)),(.stmts (fB (st 22))),(fS (st 22)),3,[],.none,.none,.none,(.str xz 445),.none,(.ref 212),.none,0⟩),⟨[]⟩⟩
noncomputable def Bh (P:Params):Obj:=⟨(.type y0),.none,(.seq ⟨[]⟩ 0),⟨[]⟩⟩
noncomputable def Dx (P:Params):Obj:=⟨.none,.none,(.fields ⟨[]⟩),⟨[]⟩⟩
noncomputable def Bg (P:Params):Obj:=⟨(.type y0),.none,(.seq ⟨[(.str z97 456),(.str z98 457),(.str z99 458),(.str Cf 459)]⟩ 0),⟨[]⟩⟩
noncomputable def Bf (P:Params):Obj:=⟨(.type y0),.none,(.seq ⟨[]⟩ 0),⟨[]⟩⟩
noncomputable def Dw (P:Params):Obj:=⟨.none,.none,(.func ⟨z96,z96,(fA (st 23)),(.stmts (fB (st 23))),(fS (st 23)),0,[],.none,.none,.none,.none,.none,.none,.none,0⟩),⟨[]⟩⟩
noncomputable def Be (P:Params):Obj:=⟨(.type y1),.none,(.fields ⟨[(.str z96 453),(.str z96 454),(.str aP 455),(.int 126 0),(.int 2 0),(.int 0 0),(.int 0 0),(.int 3 0),(.ref 214),(.bool .true),(.int 181 0),(.ref 215),.none,(.ref 216),(.ref 217),(.ref 218),(.int 460 0),(.int 126 0),(.str aP 461)]⟩),⟨[]⟩⟩
noncomputable def Bd (P:Params):Obj:=⟨(.type y2),.none,(.func ⟨z96,z96,(fA (st 23)),(.stmts (fB (st 23))),(fS (st 23)),3,[],.none,.none,.none,(.str xz 445),.none,(.ref 219),.none,0⟩),⟨[]⟩⟩
noncomputable def Bc (P:Params):Obj:=⟨(.type y0),.none,(.seq ⟨[]⟩ 0),⟨[]⟩⟩
noncomputable def Dv (P:Params):Obj:=⟨.none,.none,(.fields ⟨[]⟩),⟨[]⟩⟩
noncomputable def Bb (P:Params):Obj:=⟨(.type y0),.none,(.seq ⟨[(.str xA 466),(.str z85 467),(.str z87 468),(.str z84 469),(.str Ce 470),(.str z89 471),(.str z97 472),(.str Cd 473),(.str rS 474)]⟩ 0),⟨[]⟩⟩
noncomputable def Ba (P:Params):Obj:=⟨(.type y0),.none,(.seq ⟨[]⟩ 0),⟨[]⟩⟩
noncomputable def Du (P:Params):Obj:=⟨.none,.none,(.func ⟨z53,z53,(fA (st 24)),(.stmts (fB (st 24))),(fS (st 24)),0,[],.none,.none,.none,.none,.none,.none,.none,0⟩),⟨[]⟩⟩
noncomputable def AZ (P:Params):Obj:=⟨(.type y1),.none,(.fields ⟨[(.str z53 463),(.str z53 464),(.str aP 465),(.int 136 0),(.int 1 0),(.int 0 0),(.int 0 0),(.int 3 0),(.ref 221),(.bool .true),(.int 181 0),(.ref 222),.none,(.ref 223),(.ref 224),(.ref 225),(.int 475 0),(.int 136 0),(.str aP 476)]⟩),⟨[]⟩⟩
noncomputable def AY (P:Params):Obj:=⟨(.type y2),.none,(.func ⟨z53,z53,(fA (st 24)),(.stmts (fB (st 24))),(fS (st 24)),3,[],.none,.none,.none,(.str xz 445),.none,(.ref 226),.none,0⟩),⟨[]⟩⟩
noncomputable def AX (P:Params):Obj:=⟨(.type y0),.none,(.seq ⟨[]⟩ 0),⟨[]⟩⟩
noncomputable def Dt (P:Params):Obj:=⟨.none,.none,(.fields ⟨[]⟩),⟨[]⟩⟩
noncomputable def AW (P:Params):Obj:=⟨(.type y0),.none,(.seq ⟨[(.str z22 483)]⟩ 0),⟨[]⟩⟩
noncomputable def AV (P:Params):Obj:=⟨(.type y0),.none,(.seq ⟨[]⟩ 0),⟨[]⟩⟩
noncomputable def Ds (P:Params):Obj:=⟨.none,.none,(.func ⟨z5,z5,(fA (st 26)),(.stmts (fB (st 26))),(fS (st 26)),0,[],.none,.none,.none,.none,.none,.none,.none,0⟩),⟨[]⟩⟩
noncomputable def AU (P:Params):Obj:=⟨(.type y1),.none,(.fields ⟨[(.str z5 480),(.str z5 481),(.str aP 482),(.int 158 0),(.int 1 0),(.int 0 0),(.int 0 0),(.int 3 0),(.ref 228),(.bool .true),(.int 181 0),(.ref 229),.none,(.ref 230),(.ref 231),(.ref 232),(.int 484 0),(.int 158 0),(.str aP 485)]⟩),⟨[]⟩⟩
noncomputable def AR (P:Params):Obj:=⟨(.type y2),.none,(.func ⟨z5,z5,(fA (st 26)),(.stmts (fB (st 26))),(fS (st 26)),3,[],.none,.none,.none,(.str gO 478),.none,(.ref 233),.none,0⟩),⟨[]⟩⟩
noncomputable def AQ (P:Params):Obj:=⟨(.type y0),.none,(.seq ⟨[]⟩ 0),⟨[]⟩⟩
noncomputable def Dr (P:Params):Obj:=⟨.none,.none,(.fields ⟨[]⟩),⟨[]⟩⟩
noncomputable def AP (P:Params):Obj:=⟨(.type y0),.none,(.seq ⟨[(.str z44 490),(.str z12 491)]⟩ 0),⟨[]⟩⟩
noncomputable def AO (P:Params):Obj:=⟨(.type y0),.none,(.seq ⟨[]⟩ 0),⟨[]⟩⟩
noncomputable def Dq (P:Params):Obj:=⟨.none,.none,(.func ⟨z46,z46,(fA (st 27)),(.stmts (fB (st 27))),(fS (st 27)),0,[],.none,.none,.none,.none,.none,.none,.none,0⟩),⟨[]⟩⟩
noncomputable def AN (P:Params):Obj:=⟨(.type y1),.none,(.fields ⟨[(.str z46 487),(.str z46 488),(.str aP 489),(.int 160 0),(.int 2 0),(.int 0 0),(.int 0 0),(.int 3 0),(.ref 235),(.bool .true),(.int 181 0),(.ref 236),.none,(.ref 237),(.ref 238),(.ref 239),(.int 492 0),(.int 160 0),(.str aP 493)]⟩),⟨[]⟩⟩
noncomputable def AM (P:Params):Obj:=⟨(.type y2),.none,(.func ⟨z46,z46,(fA (st 27)),(.stmts (fB (st 27))),(fS (st 27)),3,[],.none,.none,.none,(.str gO 478),.none,(.ref 240),.none,0⟩),⟨[]⟩⟩
noncomputable def AL (P:Params):Obj:=⟨(.type y0),.none,(.seq ⟨[]⟩ 0),⟨[]⟩⟩
noncomputable def Dp (P:Params):Obj:=⟨.none,.none,(.fields ⟨[]⟩),⟨[]⟩⟩
noncomputable def AK (P:Params):Obj:=⟨(.type y0),.none,(.seq ⟨[(.str z44 498),(.str z80 499),(.str z81 500)]⟩ 0),⟨[]⟩⟩
noncomputable def AJ (P:Params):Obj:=⟨(.type y0),.none,(.seq ⟨[]⟩ 0),⟨[]⟩⟩
noncomputable def Dn (P:Params):Obj:=⟨.none,.none,(.func ⟨z79,z79,(fA (st 28)),(.stmts (fB (st 28))),(fS (st 28)),0,[],.none,.none,.none,.none,.none,.none,.none,0⟩),⟨[]⟩⟩
noncomputable def AI (P:Params):Obj:=⟨(.type y1),.none,(.fields ⟨[(.str z79 495),(.str z79 496),(.str aP 497),(.int 164 0),(.int 2 0),(.int 0 0),(.int 0 0),(.int 3 0),(.ref 242),(.bool .true),(.int 181 0),(.ref 243),.none,(.ref 244),(.ref 245),(.ref 246),(.int 501 0),(.int 164 0),(.str aP 502)]⟩),⟨[]⟩⟩
noncomputable def AH (P:Params):Obj:=⟨(.type y2),.none,(.func ⟨z79,z79,(fA (st 28)),(.stmts (fB (st 28))),(fS (st 28)),3,[],.none,.none,.none,(.str gO 478),.none,(.ref 247),.none,0⟩),⟨[]⟩⟩
noncomputable def AG (P:Params):Obj:=⟨(.type y0),.none,(.seq ⟨[]⟩ 0),⟨[]⟩⟩
noncomputable def Dm (P:Params):Obj:=⟨.none,.none,(.fields ⟨[]⟩),⟨[]⟩⟩
noncomputable def AF (P:Params):Obj:=⟨(.type y0),.none,(.seq ⟨[(.str z66 507),(.str z12 508)]⟩ 0),⟨[]⟩⟩
noncomputable def AE (P:Params):Obj:=⟨(.type y0),.none,(.seq ⟨[]⟩ 0),⟨[]⟩⟩
noncomputable def Dl (P:Params):Obj:=⟨.none,.none,(.func ⟨z68,z68,(fA (st 29)),(.stmts (fB (st 29))),(fS (st 29)),0,[],.none,.none,.none,.none,.none,.none,.none,0⟩),⟨[]⟩⟩
noncomputable def AD (P:Params):Obj:=⟨(.type y1),.none,(.fields ⟨[(.str z68 504),(.str z68 505),(.str aP 506),(.int 169 0),(.int 2 0),(.int 0 0),(.int 0 0),(.int 3 0),(.ref 249),(.bool .true),(.int 181 0),(.ref 250),.none,(.ref 251),(.ref 252),(.ref 253),(.int 509 0),(.int 169 0),(.str aP 510)]⟩),⟨[]⟩⟩
noncomputable def AC (P:Params):Obj:=⟨(.type y2),.none,(.func ⟨z68,z68,(fA (st 29)),(.stmts (fB (st 29))),(fS (st 29)),3,[],.none,.none,.none,(.str gO 478),.none,(.ref 254),.none,0⟩),⟨[]⟩⟩
noncomputable def AB (P:Params):Obj:=⟨(.type y0),.none,(.seq ⟨[]⟩ 0),⟨[]⟩⟩
noncomputable def Dk (P:Params):Obj:=⟨.none,.none,(.fields ⟨[]⟩),⟨[]⟩⟩
noncomputable def AA (P:Params):Obj:=⟨(.type y0),.none,(.seq ⟨[(.str z66 515)]⟩ 0),⟨[]⟩⟩
noncomputable def Az (P:Params):Obj:=⟨(.type y0),.none,(.seq ⟨[]⟩ 0),⟨[]⟩⟩
noncomputable def Dj (P:Params):Obj:=⟨.none,.none,(.func ⟨z45,z45,(fA (st 30)),(.stmts (fB (st 30))),(fS (st 30)),0,[],.none,.none,.none,.none,.none,.none,.none,0⟩),⟨[]⟩⟩
noncomputable def Ay (P:Params):Obj:=⟨(.type y1),.none,(.fields ⟨[(.str z45 512),(.str z45 513),(.str aP 514),(.int 175 0),(.int 1 0),(.int 0 0),(.int 0 0),(.int 3 0),(.ref 256),(.bool .true),(.int 181 0),(.ref 257),.none,(.ref 258),(.ref 259),(.ref 260),(.int 516 0),(.int 175 0),(.str aP 517)]⟩),⟨[]⟩⟩
noncomputable def Ax (P:Params):Obj:=⟨(.type y2),.none,(.func ⟨z45,z45,(fA (st 30)),(.stmts (fB (st 30))),(fS (st 30)),3,[],.none,.none,.none,(.str gO 478),.none,(.ref 261),.none,0⟩),⟨[]⟩⟩
noncomputable def Aw (P:Params):Obj:=⟨(.type y0),.none,(.seq ⟨[]⟩ 0),⟨[]⟩⟩
noncomputable def Di (P:Params):Obj:=⟨.none,.none,(.fields ⟨[]⟩),⟨[]⟩⟩
noncomputable def Av (P:Params):Obj:=⟨(.type y0),.none,(.seq ⟨[(.str z44 522)]⟩ 0),⟨[]⟩⟩
noncomputable def Au (P:Params):Obj:=⟨(.type y0),.none,(.seq ⟨[]⟩ 0),⟨[]⟩⟩
noncomputable def Dh (P:Params):Obj:=⟨.none,.none,(.func ⟨z70,z70,(fA (st 31)),(.stmts (fB (st 31))),(fS (st 31)),0,[],.none,.none,.none,.none,.none,.none,.none,0⟩),⟨[]⟩⟩
noncomputable def Ar (P:Params):Obj:=⟨(.type y1),.none,(.fields ⟨[(.str z70 519),(.str z70 520),(.str aP 521),(.int 179 0),(.int 1 0),(.int 0 0),(.int 0 0),(.int 3 0),(.ref 263),(.bool .true),(.int 181 0),(.ref 264),.none,(.ref 265),(.ref 266),(.ref 267),(.int 523 0),(.int 179 0),(.str aP 524)]⟩),⟨[]⟩⟩
noncomputable def Aq (P:Params):Obj:=⟨(.type y2),.none,(.func ⟨z70,z70,(fA (st 31)),(.stmts (fB (st 31))),(fS (st 31)),3,[],.none,.none,.none,(.str gO 478),.none,(.ref 268),.none,0⟩),⟨[]⟩⟩
noncomputable def Ap (P:Params):Obj:=⟨(.type y0),.none,(.seq ⟨[]⟩ 0),⟨[]⟩⟩
noncomputable def Dg (P:Params):Obj:=⟨.none,.none,(.fields ⟨[]⟩),⟨[]⟩⟩
noncomputable def Df (P:Params):Obj:=⟨.none,.none,(.func ⟨z71,z71,(fA (st 32)),(.stmts (fB (st 32))),(fS (st 32)),0,[],.none,.none,.none,.none,.none,.none,.none,0⟩),⟨[]⟩⟩
noncomputable def Ao (P:Params):Obj:=⟨(.type y1),.none,(.fields ⟨[(.str z71 526),(.str z71 527),(.str aP 528),(.int 183 0),(.int 3 0),(.int 0 0),(.int 0 0),(.int 3 0),(.ref 270),(.bool .true),(.int 181 0),(.ref 271),.none,.none,.none,(.ref 272),(.int 529 0),(.int 183 0),(.str aP 530)]⟩),⟨[]⟩⟩
noncomputable def An (P:Params):Obj:=⟨(.type y2),.none,(.func ⟨z71,z71,(fA (st 32)),(.stmts (fB (st 32))),(fS (st 32)),3,[],.none,.none,.none,(.str gO 478),.none,(.ref 273),.none,0⟩),⟨[]⟩⟩
noncomputable def Am (P:Params):Obj:=⟨(.type y0),.none,(.seq ⟨[]⟩ 0),⟨[]⟩⟩
noncomputable def De (P:Params):Obj:=⟨.none,.none,(.fields ⟨[]⟩),⟨[]⟩⟩
noncomputable def Dd (P:Params):Obj:=⟨.none,.none,(.func ⟨z61,z61,(fA (st 33)),(.stmts (fB (st 33))),(fS (st 33)),0,[],.none,.none,.none,.none,.none,.none,.none,0⟩),⟨[]⟩⟩
noncomputable def Al (P:Params):Obj:=⟨(.type y1),.none,(.fields ⟨[(.str z61 532),(.str z61 533),(.str aP 534),(.int 194 0),(.int 2 0),(.int 0 0),(.int 0 0),(.int 3 0),(.ref 275),(.bool .true),(.int 181 0),(.ref 276),.none,.none,.none,(.ref 277),(.int 535 0),(.int 194 0),(.str aP 536)]⟩),⟨[]⟩⟩
noncomputable def Ak (P:Params):Obj:=⟨(.type y2),.none,(.func ⟨z61,z61,(fA (st 33)),(.stmts (fB (st 33))),(fS (st 33)),3,[],.none,.none,.none,(.str gO 478),.none,(.ref 278),.none,0⟩),⟨[]⟩⟩
noncomputable def Aj (P:Params):Obj:=⟨(.type y0),.none,(.seq ⟨[]⟩ 0),⟨[]⟩⟩
noncomputable def Dc (P:Params):Obj:=⟨.none,.none,(.fields ⟨[]⟩),⟨[]⟩⟩
noncomputable def Db (P:Params):Obj:=⟨.none,.none,(.func ⟨z65,z65,(fA (st 34)),(.stmts (fB (st 34))),(fS (st 34)),0,[],.none,.none,.none,.none,.none,.none,.none,0⟩),⟨[]⟩⟩
noncomputable def Ai (P:Params):Obj:=⟨(.type y1),.none,(.fields ⟨[(.str z65 538),(.str z65 539),(.str aP 540),(.int 199 0),(.int 1 0),(.int 0 0),(.int 0 0),(.int 3 0),(.ref 280),(.bool .true),(.int 181 0),(.ref 281),.none,.none,.none,(.ref 282),(.int 541 0),(.int 199 0),(.str aP 542)]⟩),⟨[]⟩⟩
noncomputable def Ah (P:Params):Obj:=⟨(.type y2),.none,(.func ⟨z65,z65,(fA (st 34)),(.stmts (fB (st 34))),(fS (st 34)),3,[],.none,.none,.none,(.str gO 478),.none,(.ref 283),.none,0⟩),⟨[]⟩⟩
noncomputable def Ag (P:Params):Obj:=⟨(.type y0),.none,(.seq ⟨[]⟩ 0),⟨[]⟩⟩
noncomputable def Da (P:Params):Obj:=⟨.none,.none,(.fields ⟨[]⟩),⟨[]⟩⟩
noncomputable def CZ (P:Params):Obj:=⟨.none,.none,(.func ⟨z49,z49,(fA (st 35)),(.stmts (fB (st 35))),(fS (st 35)),0,[],.none,.none,.none,.none,.none,.none,.none,0⟩),⟨[]⟩⟩
noncomputable def Af (P:Params):Obj:=⟨(.type y1),.none,(.fields ⟨[(.str z49 544),(.str z49 545),(.str aP 546),(.int 205 0),(.int 1 0),(.int 0 0),(.int 0 0),(.int 3 0),(.ref 285),(.bool .true),(.int 181 0),(.ref 286),.none,.none,.none,(.ref 287),(.int 547 0),(.int 205 0),(.str aP 548)]⟩),⟨[]⟩⟩
noncomputable def Ae (P:Params):Obj:=⟨(.type y2),.none,(.func ⟨z49,z49,(fA (st 35)),(.stmts (fB (st 35))),(fS (st 35)),3,[],.none,.none,.none,(.str gO 478),.none,(.ref 288),.none,0⟩),⟨[]⟩⟩
noncomputable def CY (P:Params):Obj:=⟨(.type y3),.none,(.dict ⟨[dE P pG 165 (.str gO 478),dE P q53 166 .none,dE P q65 167 .none,dE P q66 168 (.builtin SL.s7097527257260152453x26),dE P q67 169 .none,dE P q0 170 (.ref 6),dE P q68 171 (.ref 4),dE P q69 173 (.str aP 172),dE P q70 174 .none,dE P kC 199 (.ref 21),dE P dR 219 (.ref 31),dE P kB 235 (.ref 44),dE P lC 251 (.ref 56),dE P z75 267 (.ref 68),dE P mV 283 (.ref 80),dE P ud 287 (.int 8 286),dE P ou 294 (.ref 89),dE P on 301 (.ref 96),dE P ow 311 (.ref 103),dE P oq 319 (.ref 108),dE P ot 325 (.ref 113),dE P pE 334 (.ref 120),dE P pD 340 (.ref 125),dE P pC 346 (.ref 130),dE P z47 444 (.ref 204),dE P z54 452 (.ref 213),dE P z96 462 (.ref 220),dE P z53 477 (.ref 227),dE P z5 486 (.ref 234),dE P z46 494 (.ref 241),dE P z79 503 (.ref 248),dE P z68 511 (.ref 255),dE P z45 518 (.ref 262),dE P z70 525 (.ref 269),dE P z71 531 (.ref 274),dE P z61 537 (.ref 279),dE P z65 543 (.ref 284),dE P z49 549 (.ref 289),dE P z14 559 (.ref 296),dE P z51 565 (.ref 301),dE P z9 571 (.ref 306),dE P z0 578 (.ref 313),dE P z6 584 (.ref 318),dE P z16 601 (.ref 325),dE P z30 616 (.ref 332),dE P z38 622 (.ref 337),dE P z43 628 (.ref 342)]⟩ 47),⟨[]⟩⟩
noncomputable def EV (P:Params):Obj:=⟨.none,.none,(.fields ⟨[(.int 2 0),(.int 0 0),(.ref 20),(.int 12 0),(.int 0 0),(.ref 27),(.int 14 0),(.int 0 0),(.ref 40),(.int 16 0),(.int 0 0),(.ref 52),(.int 18 0),(.int 0 0),(.ref 64),(.int 20 0),(.int 0 0),(.ref 76),(.int 24 0),(.int 0 0),(.ref 88),(.int 27 0),(.int 0 0),(.ref 95),(.int 30 0),(.int 0 0),(.ref 102),(.int 38 0),(.int 0 0),(.ref 107),(.int 40 0),(.int 0 0),(.ref 112),(.int 43 0),(.int 0 0),(.ref 119),(.int 48 0),(.int 0 0),(.ref 124),(.int 54 0),(.int 0 0),(.ref 129),(.int 67 0),(.int 0 0),(.ref 136),(.int 120 0),(.int 0 0),(.ref 212),(.int 126 0),(.int 0 0),(.ref 219),(.int 136 0),(.int 0 0),(.ref 226),(.int 158 0),(.int 0 0),(.ref 233),(.int 160 0),(.int 0 0),(.ref 240),(.int 164 0),(.int 0 0),(.ref 247),(.int 169 0),(.int 0 0),(.ref 254),(.int 175 0),(.int 0 0),(.ref 261),(.int 179 0),(.int 0 0),(.ref 268),(.int 183 0),(.int 0 0),(.ref 273),(.int 194 0),(.int 0 0),(.ref 278),(.int 199 0),(.int 0 0),(.ref 283),(.int 205 0),(.int 0 0),(.ref 288),(.int 213 0),(.int 0 0),(.ref 295),(.int 220 0),(.int 0 0),(.ref 300),(.int 231 0),(.int 0 0),(.ref 305),(.int 235 0),(.int 0 0),(.ref 312),(.int 237 0),(.int 0 0),(.ref 317),(.int 250 0),(.int 0 0),(.ref 324),(.int 268 0),(.int 0 0),(.ref 331),(.int 285 0),(.int 0 0),(.ref 336),(.int 297 0),(.int 0 0),(.ref 341)]⟩),⟨[]⟩⟩
noncomputable def CX (P:Params):Obj:=⟨(.type y0),.none,(.seq ⟨[]⟩ 0),⟨[]⟩⟩
noncomputable def EU (P:Params):Obj:=⟨.none,.none,(.fields ⟨[]⟩),⟨[]⟩⟩
noncomputable def CW (P:Params):Obj:=⟨(.type y0),.none,(.seq ⟨[(.str z52 553),(.str z36 554),(.str z22 555),(.str z72 556)]⟩ 0),⟨[]⟩⟩
noncomputable def CV (P:Params):Obj:=⟨(.type y0),.none,(.seq ⟨[]⟩ 0),⟨[]⟩⟩
noncomputable def ET (P:Params):Obj:=⟨.none,.none,(.func ⟨z14,z14,(fA (st 36)),(.stmts (fB (st 36))),(fS (st 36)),0,[],.none,.none,.none,.none,.none,.none,.none,0⟩),⟨[]⟩⟩
noncomputable def CU (P:Params):Obj:=⟨(.type y1),.none,(.fields ⟨[(.str z14 550),(.str z14 551),(.str aP 552),(.int 213 0),(.int 1 0),(.int 0 0),(.int 0 0),(.int 3 0),(.ref 290),(.bool .true),(.int 181 0),(.ref 291),.none,(.ref 292),(.ref 293),(.ref 294),(.int 557 0),(.int 213 0),(.str aP 558)]⟩),⟨[]⟩⟩
noncomputable def CT (P:Params):Obj:=⟨(.type y2),.none,(.func ⟨z14,z14,(fA (st 36)),(.stmts (fB (st 36))),(fS (st 36)),3,[],.none,.none,.none,(.str gO 478),.none,(.ref 295),.none,0⟩),⟨[]⟩⟩
noncomputable def CS (P:Params):Obj:=⟨(.type y0),.none,(.seq ⟨[]⟩ 0),⟨[]⟩⟩
noncomputable def ES (P:Params):Obj:=⟨.none,.none,(.fields ⟨[]⟩),⟨[]⟩⟩
noncomputable def ER (P:Params):Obj:=⟨.none,.none,(.func ⟨z51,z51,(fA (st 37)),(.stmts (fB (st 37))),(fS (st 37)),0,[],.none,.none,.none,.none,.none,.none,.none,0⟩),⟨[]⟩⟩
noncomputable def CR (P:Params):Obj:=⟨(.type y1),.none,(.fields ⟨[(.str z51 560),(.str z51 561),(.str aP 562),(.int 220 0),(.int 3 0),(.int 0 0),(.int 0 0),(.int 3 0),(.ref 297),(.bool .true),(.int 181 0),(.ref 298),.none,.none,.none,(.ref 299),(.int 563 0),(.int 220 0),(.str aP 564)]⟩),⟨[]⟩⟩
noncomputable def CQ (P:Params):Obj:=⟨(.type y2),.none,(.func ⟨z51,z51,(fA (st 37)),(.stmts (fB (st 37))),(fS (st 37)),3,[],.none,.none,.none,(.str gO 478),.none,(.ref 300),.none,0⟩),⟨[]⟩⟩
noncomputable def CP (P:Params):Obj:=⟨(.type y0),.none,(.seq ⟨[]⟩ 0),⟨[]⟩⟩
noncomputable def EP (P:Params):Obj:=⟨.none,.none,(.fields ⟨[]⟩),⟨[]⟩⟩
noncomputable def EO (P:Params):Obj:=⟨.none,.none,(.func ⟨z9,z9,(fA (st 38)),(.stmts (fB (st 38))),(fS (st 38)),0,[],.none,.none,.none,.none,.none,.none,.none,0⟩),⟨[]⟩⟩
noncomputable def CO (P:Params):Obj:=⟨(.type y1),.none,(.fields ⟨[(.str z9 566),(.str z9 567),(.str aP 568),(.int 231 0),(.int 1 0),(.int 0 0),(.int 0 0),(.int 3 0),(.ref 302),(.bool .true),(.int 181 0),(.ref 303),.none,.none,.none,(.ref 304),(.int 569 0),(.int 231 0),(.str aP 570)]⟩),⟨[]⟩⟩
noncomputable def CN (P:Params):Obj:=⟨(.type y2),.none,(.func ⟨z9,z9,(fA (st 38)),(.stmts (fB (st 38))),(fS (st 38)),3,[],.none,.none,.none,(.str gO 478),.none,(.ref 305),.none,0⟩),⟨[]⟩⟩
noncomputable def CM (P:Params):Obj:=⟨(.type y0),.none,(.seq ⟨[]⟩ 0),⟨[]⟩⟩
noncomputable def EN (P:Params):Obj:=⟨.none,.none,(.fields ⟨[]⟩),⟨[]⟩⟩
noncomputable def CL (P:Params):Obj:=⟨(.type y0),.none,(.seq ⟨[(.str z1 575)]⟩ 0),⟨[]⟩⟩
noncomputable def CK (P:Params):Obj:=⟨(.type y0),.none,(.seq ⟨[]⟩ 0),⟨[]⟩⟩
noncomputable def EM (P:Params):Obj:=⟨.none,.none,(.func ⟨z0,z0,(fA (st 39)),(.stmts (fB (st 39))),(fS (st 39)),0,[],.none,.none,.none,.none,.none,.none,.none,0⟩),⟨[]⟩⟩
noncomputable def CJ (P:Params):Obj:=⟨(.type y1),.none,(.fields ⟨[(.str z0 572),(.str z0 573),(.str aP 574),(.int 235 0),(.int 1 0),(.int 0 0),(.int 0 0),(.int 3 0),(.ref 307),(.bool .true),(.int 181 0),(.ref 308),.none,(.ref 309),(.ref 310),(.ref 311),(.int 576 0),(.int 235 0),(.str aP 577)]⟩),⟨[]⟩⟩
noncomputable def CI (P:Params):Obj:=⟨(.type y2),.none,(.func ⟨z0,z0,(fA (st 39)),(.stmts (fB (st 39))),(fS (st 39)),3,[],.none,.none,.none,(.str gO 478),.none,(.ref 312),.none,0⟩),⟨[]⟩⟩
noncomputable def CH (P:Params):Obj:=⟨(.type y0),.none,(.seq ⟨[]⟩ 0),⟨[]⟩⟩
noncomputable def EL (P:Params):Obj:=⟨.none,.none,(.fields ⟨[]⟩),⟨[]⟩⟩
noncomputable def EK (P:Params):Obj:=⟨.none,.none,(.func ⟨z6,z6,(fA (st 40)),(.stmts (fB (st 40))),(fS (st 40)),0,[],.none,.none,.none,.none,.none,.none,.none,0⟩),⟨[]⟩⟩
noncomputable def CG (P:Params):Obj:=⟨(.type y1),.none,(.fields ⟨[(.str z6 579),(.str z6 580),(.str aP 581),(.int 237 0),(.int 2 0),(.int 0 0),(.int 0 0),(.int 3 0),(.ref 314),(.bool .true),(.int 181 0),(.ref 315),.none,.none,.none,(.ref 316),(.int 582 0),(.int 237 0),(.str aP 583)]⟩),⟨[]⟩⟩
noncomputable def CF (P:Params):Obj:=⟨(.type y2),.none,(.func ⟨z6,z6,(fA (st 40)),(.stmts (fB (st 40))),(fS (st 40)),3,[],.none,.none,.none,(.str gO 478),.none,(.ref 317),.none,0⟩),⟨[]⟩⟩
noncomputable def CE (P:Params):Obj:=⟨(.type y0),.none,(.seq ⟨[]⟩ 0),⟨[]⟩⟩
noncomputable def EJ (P:Params):Obj:=⟨.none,.none,(.fields ⟨[]⟩),⟨[]⟩⟩
noncomputable def CD (P:Params):Obj:=⟨(.type y0),.none,(.seq ⟨[(.str z17 588),(.str z18 589),(.str z8 590),(.str z19 591),(.str z1 592),(.str z20 593),(.str z12 594),(.str z22 595),(.str z23 596),(.str z24 597),(.str z25 598)]⟩ 0),⟨[]⟩⟩
noncomputable def CC (P:Params):Obj:=⟨(.type y0),.none,(.seq ⟨[]⟩ 0),⟨[]⟩⟩
noncomputable def EI (P:Params):Obj:=⟨.none,.none,(.func ⟨z16,z16,(fA (st 41)),(.stmts (fB (st 41))),(fS (st 41)),0,[],.none,.none,.none,.none,.none,.none,.none,0⟩),⟨[]⟩⟩
noncomputable def CB (P:Params):Obj:=⟨(.type y1),.none,(.fields ⟨[(.str z16 585),(.str z16 586),(.str aP 587),(.int 250 0),(.int 3 0),(.int 0 0),(.int 0 0),(.int 3 0),(.ref 319),(.bool .true),(.int 181 0),(.ref 320),.none,(.ref 321),(.ref 322),(.ref 323),(.int 599 0),(.int 250 0),(.str aP 600)]⟩),⟨[]⟩⟩
noncomputable def CA (P:Params):Obj:=⟨(.type y2),.none,(.func ⟨z16,z16,(fA (st 41)),(.stmts (fB (st 41))),(fS (st 41)),3,[],.none,.none,.none,(.str gO 478),.none,(.ref 324),.none,0⟩),⟨[]⟩⟩
noncomputable def Cz (P:Params):Obj:=⟨(.type y0),.none,(.seq ⟨[]⟩ 0),⟨[]⟩⟩
noncomputable def EH (P:Params):Obj:=⟨.none,.none,(.fields ⟨[]⟩),⟨[]⟩⟩
noncomputable def Cy (P:Params):Obj:=⟨(.type y0),.none,(.seq ⟨[(.str z31 605),(.str z17 606),(.str z32 607),(.str z33 608),(.str z7 609),(.str z34 610),(.str z20 611),(.str z36 612),(.str z12 613)]⟩ 0),⟨[]⟩⟩
noncomputable def Cw (P:Params):Obj:=⟨(.type y0),.none,(.seq ⟨[]⟩ 0),⟨[]⟩⟩
noncomputable def EG (P:Params):Obj:=⟨.none,.none,(.func ⟨z30,z30,(fA (st 42)),(.stmts (fB (st 42))),(fS (st 42)),0,[],.none,.none,.none,.none,.none,.none,.none,0⟩),⟨[]⟩⟩
noncomputable def Cv (P:Params):Obj:=⟨(.type y1),.none,(.fields ⟨[(.str z30 602),(.str z30 603),(.str aP 604),(.int 268 0),(.int 3 0),(.int 0 0),(.int 0 0),(.int 3 0),(.ref 326),(.bool .true),(.int 181 0),(.ref 327),.none,(.ref 328),(.ref 329),(.ref 330),(.int 614 0),(.int 268 0),(.str aP 615)]⟩),⟨[]⟩⟩
noncomputable def Cu (P:Params):Obj:=⟨(.type y2),.none,(.func ⟨z30,z30,(fA (st 42)),(.stmts (fB (st 42))),(fS (st 42)),3,[],.none,.none,.none,(.str gO 478),.none,(.ref 331),.none,0⟩),⟨[]⟩⟩
noncomputable def Ct (P:Params):Obj:=⟨(.type y0),.none,(.seq ⟨[]⟩ 0),⟨[]⟩⟩
noncomputable def EF (P:Params):Obj:=⟨.none,.none,(.fields ⟨[]⟩),⟨[]⟩⟩
noncomputable def EE (P:Params):Obj:=⟨.none,.none,(.func ⟨z38,z38,(fA (st 43)),(.stmts (fB (st 43))),(fS (st 43)),0,[],.none,.none,.none,.none,.none,.none,.none,0⟩),⟨[]⟩⟩
noncomputable def Cs (P:Params):Obj:=⟨(.type y1),.none,(.fields ⟨[(.str z38 617),(.str z38 618),(.str aP 619),(.int 285 0),(.int 3 0),(.int 0 0),(.int 0 0),(.int 3 0),(.ref 333),(.bool .true),(.int 181 0),(.ref 334),.none,.none,.none,(.ref 335),(.int 620 0),(.int 285 0),(.str aP 621)]⟩),⟨[]⟩⟩
noncomputable def Cr (P:Params):Obj:=⟨(.type y2),.none,(.func ⟨z38,z38,(fA (st 43)),(.stmts (fB (st 43))),(fS (st 43)),3,[],.none,.none,.none,(.str gO 478),.none,(.ref 336),.none,0⟩),⟨[]⟩⟩
noncomputable def Cq (P:Params):Obj:=⟨(.type y0),.none,(.seq ⟨[]⟩ 0),⟨[]⟩⟩
noncomputable def ED (P:Params):Obj:=⟨.none,.none,(.fields ⟨[]⟩),⟨[]⟩⟩
noncomputable def EC (P:Params):Obj:=⟨.none,.none,(.func ⟨z43,z43,(fA (st 44)),(.stmts (fB (st 44))),(fS (st 44)),0,[],.none,.none,.none,.none,.none,.none,.none,0⟩),⟨[]⟩⟩
noncomputable def Cp (P:Params):Obj:=⟨(.type y1),.none,(.fields ⟨[(.str z43 623),(.str z43 624),(.str aP 625),(.int 297 0),(.int 1 0),(.int 0 0),(.int 0 0),(.int 3 0),(.ref 338),(.bool .true),(.int 181 0),(.ref 339),.none,.none,.none,(.ref 340),(.int 626 0),(.int 297 0),(.str aP 627)]⟩),⟨[]⟩⟩
noncomputable def Co (P:Params):Obj:=⟨(.type y2),.none,(.func ⟨z43,z43,(fA (st 44)),(.stmts (fB (st 44))),(fS (st 44)),3,[],.none,.none,.none,(.str gO 478),.none,(.ref 341),.none,0⟩),⟨[]⟩⟩
noncomputable def jN:Params→W.BT:=(fun P=>(.node (boot_o_0 P) (.node (boot_o_1 P) (.node (o86 P) (.node (boot_o_7 P) (.node (o51 P) (lf (o88 P)) (lf (o89 P))) (.node (o59 P) (lf (o78 P)) (lf (o97 P)))) (.node (o43 P) (.node (o55 P) (lf (o74 P)) (lf (o93 P))) (.node (o63 P) (lf (o82 P)) .nil))) (.node (boot_o_5 P) (.node (boot_o_9 P) (.node (o53 P) (lf (o69 P)) (lf (o91 P))) (.node (o61 P) (lf (o80 P)) (lf (o99 P)))) (.node (o45 P) (.node (o57 P) (lf (o76 P)) (lf (o95 P))) (.node (o65 P) (lf (o84 P)) .nil)))) (.node (boot_o_2 P) (.node (boot_o_4 P) (.node (boot_o_8 P) (.node (o52 P) (lf (o68 P)) (lf (o90 P))) (.node (o60 P) (lf (o79 P)) (lf (o98 P)))) (.node (o87 P) (.node (o56 P) (lf (o75 P)) (lf (o94 P))) (.node (o64 P) (lf (o83 P)) .nil))) (.node (boot_o_6 P) (.node (boot_o_10 P) (.node (o54 P) (lf (o70 P)) (lf (o92 P))) (.node (o62 P) (lf (o81 P)) (lf (tE P)))) (.node (o46 P) (.node (o58 P) (lf (o77 P)) (lf (o96 P))) (.node (o66 P) (lf (o85 P)) .nil))))))
noncomputable def jJ:Params→W.BT:=(fun P=>(.node (boot_o_0 P) (.node (boot_o_1 P) (.node (FM P) (.node (boot_o_7 P) (.node (o51 P) (.node (vI P) (.node (vN P) (lf (zk P)) (lf (yy P))) (.node (vr P) (lf (yT P)) .nil)) (.node (o89 P) (.node (vF P) (lf (zf P)) (lf (Bm P))) (.node (wY P) (lf (Bv P)) .nil))) (.node (o59 P) (.node (o78 P) (.node (vH P) (lf (BK P)) (lf (Bn P))) (.node (vj P) (lf (Bz P)) .nil)) (.node (o97 P) (.node (xi P) (lf (yZ P)) .nil) (.node (wU P) (lf (yD P)) .nil)))) (.node (o43 P) (.node (o55 P) (.node (o74 P) (.node (tB P) (lf (BP P)) (lf (yv P))) (.node (vn P) (lf (BA P)) .nil)) (.node (o93 P) (.node (vD P) (lf (zc P)) .nil) (.node (zo P) (lf (Bu P)) .nil))) (.node (o63 P) (.node (o82 P) (.node (xr P) (lf (BH P)) (lf (yo P))) (.node (vf P) (lf (yL P)) .nil)) (.node (tD P) (.node (xh P) (lf (yW P)) .nil) (.node (zl P) (lf (yB P)) .nil))))) (.node (boot_o_5 P) (.node (boot_o_9 P) (.node (o53 P) (.node (o69 P) (.node (vL P) (lf (wM P)) (lf (yx P))) (.node (vp P) (lf (yS P)) .nil)) (.node (o91 P) (.node (xl P) (lf (zd P)) .nil) (.node (uY P) (lf (yH P)) .nil))) (.node (o61 P) (.node (o80 P) (.node (xu P) (lf (BI P)) (lf (yq P))) (.node (xd P) (lf (yN P)) .nil)) (.node (o99 P) (.node (vz P) (lf (BD P)) .nil) (.node (wQ P) (lf (Br P)) .nil)))) (.node (o45 P) (.node (o57 P) (.node (o76 P) (.node (vK P) (lf (BM P)) (lf (yu P))) (.node (xe P) (lf (yP P)) .nil)) (.node (o95 P) (.node (vC P) (lf (BE P)) .nil) (.node (wV P) (lf (yF P)) .nil))) (.node (o65 P) (.node (o84 P) (.node (xp P) (lf (zg P)) (lf (ym P))) (.node (vd P) (lf (yK P)) .nil)) (.node (vP P) (.node (vt P) (lf (yV P)) .nil) (.node (wO P) (lf (Bq P)) .nil)))))) (.node (boot_o_2 P) (.node (boot_o_4 P) (.node (boot_o_8 P) (.node (o52 P) (.node (o68 P) (.node (vM P) (lf (zj P)) (lf (Bp P))) (.node (vq P) (lf (BB P)) .nil)) (.node (o90 P) (.node (vE P) (lf (ze P)) (lf (Bl P))) (.node (uZ P) (lf (yI P)) .nil))) (.node (o60 P) (.node (o79 P) (.node (xv P) (lf (BJ P)) (lf (yr P))) (.node (vg P) (lf (Bx P)) .nil)) (.node (o98 P) (.node (vA P) (lf (yY P)) .nil) (.node (wR P) (lf (Bs P)) .nil)))) (.node (FL P) (.node (o56 P) (.node (o75 P) (.node (tA P) (lf (BO P)) (lf (Bo P))) (.node (vm P) (lf (yQ P)) .nil)) (.node (o94 P) (.node (xj P) (lf (zb P)) .nil) (.node (wW P) (lf (Bt P)) .nil))) (.node (o64 P) (.node (o83 P) (.node (xq P) (lf (zh P)) (lf (yn P))) (.node (ve P) (lf (Bw P)) .nil)) (.node (vQ P) (.node (vv P) (lf (BC P)) .nil) (.node (wP P) (lf (yA P)) .nil))))) (.node (boot_o_6 P) (.node (boot_o_10 P) (.node (o54 P) (.node (o70 P) (.node (tC P) (lf (wL P)) (lf (yw P))) (.node (xf P) (lf (yR P)) .nil)) (.node (o92 P) (.node (xk P) (lf (BF P)) .nil) (.node (wX P) (lf (yG P)) .nil))) (.node (o62 P) (.node (o81 P) (.node (xt P) (lf (zi P)) (lf (yp P))) (.node (xc P) (lf (yM P)) .nil)) (.node (tE P) (.node (vy P) (lf (yX P)) .nil) (.node (zm P) (lf (yC P)) .nil)))) (.node (o46 P) (.node (o58 P) (.node (o77 P) (.node (vJ P) (lf (BL P)) (lf (yt P))) (.node (vk P) (lf (yO P)) .nil)) (.node (o96 P) (.node (vB P) (lf (za P)) .nil) (.node (zn P) (lf (yE P)) .nil))) (.node (o66 P) (.node (o85 P) (.node (vG P) (lf (BG P)) (lf (yl P))) (.node (wZ P) (lf (yJ P)) .nil)) (.node (vO P) (.node (xg P) (lf (yU P)) .nil) (.node (wN P) (lf (yz P)) .nil))))))))
noncomputable def nN:Params→Heap:=(fun P=>⟨⟨[(boot_o_0 P),(boot_o_1 P),(boot_o_2 P),(boot_o_3 P),(boot_o_4 P),(boot_o_5 P),(boot_o_6 P),(boot_o_7 P),(boot_o_8 P),(boot_o_9 P),(boot_o_10 P),(o43 P),(o44 P),(o45 P),(o46 P)]⟩,⟨[],[],[],0,[],[],.false,⟨[]⟩,[],0,.false,.false,.false,0,[2000,10,10],.false,0,.true,[],[],0,.false⟩⟩)
noncomputable def nc:Params→W.BT:=(fun P=>(.node (boot_o_0 P) (.node (boot_o_1 P) (.node (o71 P) (.node (boot_o_7 P) (.node (o51 P) (lf (o73 P)) .nil) (.node (o59 P) (lf (o78 P)) .nil)) (.node (o43 P) (.node (o55 P) (lf (o74 P)) .nil) (.node (o63 P) (lf (o82 P)) .nil))) (.node (boot_o_5 P) (.node (boot_o_9 P) (.node (o53 P) (lf (o69 P)) .nil) (.node (o61 P) (lf (o80 P)) .nil)) (.node (o45 P) (.node (o57 P) (lf (o76 P)) .nil) (.node (o65 P) (lf (o84 P)) .nil)))) (.node (boot_o_2 P) (.node (boot_o_4 P) (.node (boot_o_8 P) (.node (o52 P) (lf (o68 P)) .nil) (.node (o60 P) (lf (o79 P)) .nil)) (.node (o72 P) (.node (o56 P) (lf (o75 P)) .nil) (.node (o64 P) (lf (o83 P)) .nil))) (.node (boot_o_6 P) (.node (boot_o_10 P) (.node (o54 P) (lf (o70 P)) .nil) (.node (o62 P) (lf (o81 P)) .nil)) (.node (o46 P) (.node (o58 P) (lf (o77 P)) .nil) (.node (o66 P) (lf (o85 P)) .nil))))))
noncomputable def ni:Params→W.BT:=(fun P=>(.node (boot_o_0 P) (.node (boot_o_1 P) (.node (boot_o_3 P) (lf (boot_o_7 P)) (lf (o43 P))) (.node (boot_o_5 P) (lf (boot_o_9 P)) (lf (o45 P)))) (.node (boot_o_2 P) (.node (boot_o_4 P) (lf (boot_o_8 P)) (lf (o44 P))) (.node (boot_o_6 P) (lf (boot_o_10 P)) (lf (o46 P))))))
noncomputable def ak:Params→Heap:=(fun P=>⟨⟨[(boot_o_0 P),(boot_o_1 P),(boot_o_2 P),(CY P),(boot_o_4 P),(boot_o_5 P),(boot_o_6 P),(boot_o_7 P),(boot_o_8 P),(boot_o_9 P),(boot_o_10 P),(o43 P),(EV P),(o45 P),(o46 P),(o51 P),(o52 P),(o53 P),(o54 P),(o55 P),(o56 P),(o57 P),(o58 P),(o59 P),(o60 P),(o61 P),(o62 P),(o63 P),(o64 P),(o65 P),(o66 P),(vI P),(o68 P),(o69 P),(o70 P),(o74 P),(o75 P),(o76 P),(o77 P),(o78 P),(o79 P),(o80 P),(o81 P),(o82 P),(o83 P),(o84 P),(o85 P),(o89 P),(o90 P),(o91 P),(o92 P),(o93 P),(o94 P),(o95 P),(o96 P),(o97 P),(o98 P),(o99 P),(tE P),(tD P),(vQ P),(vP P),(vO P),(vN P),(vM P),(vL P),(tC P),(tB P),(tA P),(vK P),(vJ P),(vH P),(xv P),(xu P),(xt P),(xr P),(xq P),(xp P),(vG P),(vF P),(vE P),(xl P),(xk P),(vD P),(xj P),(vC P),(vB P),(xi P),(vA P),(vz P),(vy P),(xh P),(vv P),(vt P),(xg P),(vr P),(vq P),(vp P),(xf P),(vn P),(vm P),(xe P),(vk P),(vj P),(vg P),(xd P),(xc P),(vf P),(ve P),(vd P),(wZ P),(wY P),(uZ P),(uY P),(wX P),(zo P),(wW P),(wV P),(zn P),(wU P),(wR P),(wQ P),(zm P),(zl P),(wP P),(wO P),(wN P),(zk P),(zj P),(wM P),(wL P),(BP P),(BO P),(BM P),(BL P),(BK P),(BJ P),(BI P),(zi P),(BH P),(zh P),(zg P),(BG P),(zf P),(ze P),(zd P),(BF P),(zc P),(zb P),(BE P),(za P),(yZ P),(yY P),(BD P),(yX P),(yW P),(BC P),(yV P),(yU P),(yT P),(BB P),(yS P),(yR P),(BA P),(yQ P),(yP P),(yO P),(Bz P),(Bx P),(yN P),(yM P),(yL P),(Bw P),(yK P),(yJ P),(Bv P),(yI P),(yH P),(yG P),(Bu P),(Bt P),(yF P),(yE P),(yD P),(Bs P),(Br P),(yC P),(yB P),(yA P),(Bq P),(yz P),(yy P),(Bp P),(yx P),(yw P),(yv P),(Bo P),(yu P),(yt P),(Bn P),(yr P),(yq P),(yp P),(yo P),(yn P),(ym P),(yl P),(Bm P),(Bl P),(Bk P),(Dz P),(Dy P),(Bj P),(Bi P),(Bh P),(Dx P),(Bg P),(Bf P),(Dw P),(Be P),(Bd P),(Bc P),(Dv P),(Bb P),(Ba P),(Du P),(AZ P),(AY P),(AX P),(Dt P),(AW P),(AV P),(Ds P),(AU P),(AR P),(AQ P),(Dr P),(AP P),(AO P),(Dq P),(AN P),(AM P),(AL P),(Dp P),(AK P),(AJ P),(Dn P),(AI P),(AH P),(AG P),(Dm P),(AF P),(AE P),(Dl P),(AD P),(AC P),(AB P),(Dk P),(AA P),(Az P),(Dj P),(Ay P),(Ax P),(Aw P),(Di P),(Av P),(Au P),(Dh P),(Ar P),(Aq P),(Ap P),(Dg P),(Df P),(Ao P),(An P),(Am P),(De P),(Dd P),(Al P),(Ak P),(Aj P),(Dc P),(Db P),(Ai P),(Ah P),(Ag P),(Da P),(CZ P),(Af P),(Ae P),(CX P),(EU P),(CW P),(CV P),(ET P),(CU P),(CT P),(CS P),(ES P),(ER P),(CR P),(CQ P),(CP P),(EP P),(EO P),(CO P),(CN P),(CM P),(EN P),(CL P),(CK P),(EM P),(CJ P),(CI P),(CH P),(EL P),(EK P),(CG P),(CF P),(CE P),(EJ P),(CD P),(CC P),(EI P),(CB P),(CA P),(Cz P),(EH P),(Cy P),(Cw P),(EG P),(Cv P),(Cu P),(Ct P),(EF P),(EE P),(Cs P),(Cr P),(Cq P),(ED P),(EC P),(Cp P),(Co P)]⟩,⟨[],[],[],0,[],[],.false,⟨[]⟩,[],0,.false,.false,.false,0,[2000,10,10],.false,0,.true,[],[],0,.false⟩⟩)
noncomputable def jL:Params→W.BT:=(fun P=>(.node (boot_o_0 P) (.node (boot_o_1 P) (.node (FQ P) (.node (boot_o_7 P) (.node (o51 P) (.node (vI P) (lf (vN P)) (lf (vr P))) (.node (o89 P) (lf (vF P)) (lf (wY P)))) (.node (o59 P) (.node (o78 P) (lf (vH P)) (lf (vj P))) (.node (o97 P) (lf (xi P)) .nil))) (.node (o43 P) (.node (o55 P) (.node (o74 P) (lf (tB P)) (lf (vn P))) (.node (o93 P) (lf (vD P)) .nil)) (.node (o63 P) (.node (o82 P) (lf (xr P)) (lf (vf P))) (.node (tD P) (lf (xh P)) .nil)))) (.node (boot_o_5 P) (.node (boot_o_9 P) (.node (o53 P) (.node (o69 P) (lf (vL P)) (lf (vp P))) (.node (o91 P) (lf (xl P)) (lf (uY P)))) (.node (o61 P) (.node (o80 P) (lf (xu P)) (lf (xd P))) (.node (o99 P) (lf (vz P)) .nil))) (.node (o45 P) (.node (o57 P) (.node (o76 P) (lf (vK P)) (lf (xe P))) (.node (o95 P) (lf (vC P)) .nil)) (.node (o65 P) (.node (o84 P) (lf (xp P)) (lf (vd P))) (.node (vP P) (lf (vt P)) .nil))))) (.node (boot_o_2 P) (.node (boot_o_4 P) (.node (boot_o_8 P) (.node (o52 P) (.node (o68 P) (lf (vM P)) (lf (vq P))) (.node (o90 P) (lf (vE P)) (lf (uZ P)))) (.node (o60 P) (.node (o79 P) (lf (xv P)) (lf (vg P))) (.node (o98 P) (lf (vA P)) .nil))) (.node (FP P) (.node (o56 P) (.node (o75 P) (lf (tA P)) (lf (vm P))) (.node (o94 P) (lf (xj P)) .nil)) (.node (o64 P) (.node (o83 P) (lf (xq P)) (lf (ve P))) (.node (vQ P) (lf (vv P)) .nil)))) (.node (boot_o_6 P) (.node (boot_o_10 P) (.node (o54 P) (.node (o70 P) (lf (tC P)) (lf (xf P))) (.node (o92 P) (lf (xk P)) .nil)) (.node (o62 P) (.node (o81 P) (lf (xt P)) (lf (xc P))) (.node (tE P) (lf (vy P)) .nil))) (.node (o46 P) (.node (o58 P) (.node (o77 P) (lf (vJ P)) (lf (vk P))) (.node (o96 P) (lf (vB P)) .nil)) (.node (o66 P) (.node (o85 P) (lf (vG P)) (lf (wZ P))) (.node (vO P) (lf (xg P)) .nil)))))))
noncomputable def jM:Params→W.BT:=(fun P=>(.node (boot_o_0 P) (.node (boot_o_1 P) (.node (FT P) (.node (boot_o_7 P) (.node (o51 P) (.node (FR P) (lf (vN P)) .nil) (lf (o89 P))) (.node (o59 P) (lf (o78 P)) (lf (o97 P)))) (.node (o43 P) (.node (o55 P) (.node (o74 P) (lf (tB P)) .nil) (lf (o93 P))) (.node (o63 P) (lf (o82 P)) (lf (tD P))))) (.node (boot_o_5 P) (.node (boot_o_9 P) (.node (o53 P) (.node (o69 P) (lf (vL P)) .nil) (lf (o91 P))) (.node (o61 P) (lf (o80 P)) (lf (o99 P)))) (.node (o45 P) (.node (o57 P) (.node (o76 P) (lf (vK P)) .nil) (lf (o95 P))) (.node (o65 P) (lf (o84 P)) (lf (vP P)))))) (.node (boot_o_2 P) (.node (boot_o_4 P) (.node (boot_o_8 P) (.node (o52 P) (.node (o68 P) (lf (vM P)) .nil) (lf (o90 P))) (.node (o60 P) (lf (o79 P)) (lf (o98 P)))) (.node (FS P) (.node (o56 P) (.node (o75 P) (lf (tA P)) .nil) (lf (o94 P))) (.node (o64 P) (lf (o83 P)) (lf (vQ P))))) (.node (boot_o_6 P) (.node (boot_o_10 P) (.node (o54 P) (.node (o70 P) (lf (tC P)) .nil) (lf (o92 P))) (.node (o62 P) (lf (o81 P)) (lf (tE P)))) (.node (o46 P) (.node (o58 P) (.node (o77 P) (lf (vJ P)) .nil) (lf (o96 P))) (.node (o66 P) (lf (o85 P)) (lf (vO P))))))))
noncomputable def ng:Params→W.BT:=(fun P=>(.node (boot_o_0 P) (.node (boot_o_1 P) (.node (o49 P) (.node (boot_o_7 P) (.node (o51 P) (lf (o67 P)) .nil) (lf (o59 P))) (.node (o43 P) (lf (o55 P)) (lf (o63 P)))) (.node (boot_o_5 P) (.node (boot_o_9 P) (.node (o53 P) (lf (o69 P)) .nil) (lf (o61 P))) (.node (o45 P) (lf (o57 P)) (lf (o65 P))))) (.node (boot_o_2 P) (.node (boot_o_4 P) (.node (boot_o_8 P) (.node (o52 P) (lf (o68 P)) .nil) (lf (o60 P))) (.node (o50 P) (lf (o56 P)) (lf (o64 P)))) (.node (boot_o_6 P) (.node (boot_o_10 P) (.node (o54 P) (lf (o70 P)) .nil) (lf (o62 P))) (.node (o46 P) (lf (o58 P)) (lf (o66 P)))))))
noncomputable def jI:Params→W.BT:=(fun P=>(.node (boot_o_0 P) (.node (boot_o_1 P) (.node (FK P) (.node (boot_o_7 P) (.node (o51 P) (.node (vI P) (.node (vN P) (.node (zk P) (lf (AC P)) .nil) (lf (yy P))) (.node (vr P) (.node (yT P) (lf (CZ P)) .nil) (lf (Bb P)))) (.node (o89 P) (.node (vF P) (.node (zf P) (lf (Dg P)) .nil) (lf (Bm P))) (.node (wY P) (lf (Bv P)) (lf (Dq P))))) (.node (o59 P) (.node (o78 P) (.node (vH P) (.node (BK P) (lf (Aw P)) .nil) (lf (Bn P))) (.node (vj P) (lf (Bz P)) (lf (AV P)))) (.node (o97 P) (.node (xi P) (.node (yZ P) (lf (Ak P)) .nil) (lf (Dx P))) (.node (wU P) (lf (yD P)) (lf (AI P)))))) (.node (o43 P) (.node (o55 P) (.node (o74 P) (.node (tB P) (.node (BP P) (lf (Az P)) .nil) (lf (yv P))) (.node (vn P) (lf (BA P)) (lf (AY P)))) (.node (o93 P) (.node (vD P) (.node (zc P) (lf (Am P)) .nil) (lf (Dy P))) (.node (zo P) (lf (Bu P)) (lf (Dp P))))) (.node (o63 P) (.node (o82 P) (.node (xr P) (.node (BH P) (lf (Dh P)) .nil) (lf (yo P))) (.node (vf P) (lf (yL P)) (lf (AQ P)))) (.node (tD P) (.node (xh P) (.node (yW P) (lf (Ai P)) .nil) (lf (Be P))) (.node (zl P) (lf (yB P)) (lf (AF P))))))) (.node (boot_o_5 P) (.node (boot_o_9 P) (.node (o53 P) (.node (o69 P) (.node (vL P) (.node (wM P) (lf (Dk P)) .nil) (lf (yx P))) (.node (vp P) (.node (yS P) (lf (Ae P)) .nil) (lf (Du P)))) (.node (o91 P) (.node (xl P) (.node (zd P) (lf (Ao P)) .nil) (lf (Bk P))) (.node (uY P) (lf (yH P)) (lf (AM P))))) (.node (o61 P) (.node (o80 P) (.node (xu P) (.node (BI P) (lf (Av P)) .nil) (lf (yq P))) (.node (xd P) (lf (yN P)) (lf (AU P)))) (.node (o99 P) (.node (vz P) (.node (BD P) (lf (Dc P)) .nil) (lf (Bf P))) (.node (wQ P) (lf (Br P)) (lf (AG P)))))) (.node (o45 P) (.node (o57 P) (.node (o76 P) (.node (vK P) (.node (BM P) (lf (Ay P)) .nil) (lf (yu P))) (.node (xe P) (lf (yP P)) (lf (Dt P)))) (.node (o95 P) (.node (vC P) (.node (BE P) (lf (Dd P)) .nil) (lf (Bi P))) (.node (wV P) (lf (yF P)) (lf (AJ P))))) (.node (o65 P) (.node (o84 P) (.node (xp P) (.node (zg P) (lf (Aq P)) .nil) (lf (ym P))) (.node (vd P) (lf (yK P)) (lf (AP P)))) (.node (vP P) (.node (vt P) (.node (yV P) (lf (Ag P)) .nil) (lf (Bc P))) (.node (wO P) (lf (Bq P)) (lf (Dl P)))))))) (.node (boot_o_2 P) (.node (boot_o_4 P) (.node (boot_o_8 P) (.node (o52 P) (.node (o68 P) (.node (vM P) (.node (zj P) (lf (AB P)) .nil) (lf (Bp P))) (.node (vq P) (.node (BB P) (lf (Af P)) .nil) (lf (Ba P)))) (.node (o90 P) (.node (vE P) (.node (ze P) (lf (Df P)) .nil) (lf (Bl P))) (.node (uZ P) (lf (yI P)) (lf (AN P))))) (.node (o60 P) (.node (o79 P) (.node (xv P) (.node (BJ P) (lf (Di P)) .nil) (lf (yr P))) (.node (vg P) (lf (Bx P)) (lf (Ds P)))) (.node (o98 P) (.node (vA P) (.node (yY P) (lf (Aj P)) .nil) (lf (Bg P))) (.node (wR P) (lf (Bs P)) (lf (AH P)))))) (.node (FJ P) (.node (o56 P) (.node (o75 P) (.node (tA P) (.node (BO P) (lf (Dj P)) .nil) (lf (Bo P))) (.node (vm P) (lf (yQ P)) (lf (AX P)))) (.node (o94 P) (.node (xj P) (.node (zb P) (lf (De P)) .nil) (lf (Bj P))) (.node (wW P) (lf (Bt P)) (lf (AK P))))) (.node (o64 P) (.node (o83 P) (.node (xq P) (.node (zh P) (lf (Ar P)) .nil) (lf (yn P))) (.node (ve P) (lf (Bw P)) (lf (Dr P)))) (.node (vQ P) (.node (vv P) (.node (BC P) (lf (Ah P)) .nil) (lf (Bd P))) (.node (wP P) (lf (yA P)) (lf (AE P))))))) (.node (boot_o_6 P) (.node (boot_o_10 P) (.node (o54 P) (.node (o70 P) (.node (tC P) (.node (wL P) (lf (AA P)) .nil) (lf (yw P))) (.node (xf P) (lf (yR P)) (lf (AZ P)))) (.node (o92 P) (.node (xk P) (.node (BF P) (lf (An P)) .nil) (lf (Dz P))) (.node (wX P) (lf (yG P)) (lf (AL P))))) (.node (o62 P) (.node (o81 P) (.node (xt P) (.node (zi P) (lf (Au P)) .nil) (lf (yp P))) (.node (xc P) (lf (yM P)) (lf (AR P)))) (.node (tE P) (.node (vy P) (.node (yX P) (lf (Db P)) .nil) (lf (Dw P))) (.node (zm P) (lf (yC P)) (lf (Dm P)))))) (.node (o46 P) (.node (o58 P) (.node (o77 P) (.node (vJ P) (.node (BL P) (lf (Ax P)) .nil) (lf (yt P))) (.node (vk P) (lf (yO P)) (lf (AW P)))) (.node (o96 P) (.node (vB P) (.node (za P) (lf (Al P)) .nil) (lf (Bh P))) (.node (zn P) (lf (yE P)) (lf (Dn P))))) (.node (o66 P) (.node (o85 P) (.node (vG P) (.node (BG P) (lf (Ap P)) .nil) (lf (yl P))) (.node (wZ P) (lf (yJ P)) (lf (AO P)))) (.node (vO P) (.node (xg P) (.node (yU P) (lf (Da P)) .nil) (lf (Dv P))) (.node (wN P) (lf (yz P)) (lf (AD P))))))))))
noncomputable def aF:Env:=⟨(Module.scope (Program.main prog)),mainNs,mainNs,[],Str.empty,.none,(.ref 13),(.some 14),0⟩
noncomputable def jK:Params→W.BT:=(fun P=>(.node (boot_o_0 P) (.node (boot_o_1 P) (.node (FO P) (.node (boot_o_7 P) (.node (o51 P) (.node (vI P) (.node (vN P) (lf (zk P)) .nil) (lf (vr P))) (.node (o89 P) (lf (vF P)) (lf (wY P)))) (.node (o59 P) (.node (o78 P) (lf (vH P)) (lf (vj P))) (.node (o97 P) (lf (xi P)) (lf (wU P))))) (.node (o43 P) (.node (o55 P) (.node (o74 P) (lf (tB P)) (lf (vn P))) (.node (o93 P) (lf (vD P)) (lf (zo P)))) (.node (o63 P) (.node (o82 P) (lf (xr P)) (lf (vf P))) (.node (tD P) (lf (xh P)) (lf (zl P)))))) (.node (boot_o_5 P) (.node (boot_o_9 P) (.node (o53 P) (.node (o69 P) (.node (vL P) (lf (wM P)) .nil) (lf (vp P))) (.node (o91 P) (lf (xl P)) (lf (uY P)))) (.node (o61 P) (.node (o80 P) (lf (xu P)) (lf (xd P))) (.node (o99 P) (lf (vz P)) (lf (wQ P))))) (.node (o45 P) (.node (o57 P) (.node (o76 P) (lf (vK P)) (lf (xe P))) (.node (o95 P) (lf (vC P)) (lf (wV P)))) (.node (o65 P) (.node (o84 P) (lf (xp P)) (lf (vd P))) (.node (vP P) (lf (vt P)) (lf (wO P))))))) (.node (boot_o_2 P) (.node (boot_o_4 P) (.node (boot_o_8 P) (.node (o52 P) (.node (o68 P) (.node (vM P) (lf (zj P)) .nil) (lf (vq P))) (.node (o90 P) (lf (vE P)) (lf (uZ P)))) (.node (o60 P) (.node (o79 P) (lf (xv P)) (lf (vg P))) (.node (o98 P) (lf (vA P)) (lf (wR P))))) (.node (FN P) (.node (o56 P) (.node (o75 P) (lf (tA P)) (lf (vm P))) (.node (o94 P) (lf (xj P)) (lf (wW P)))) (.node (o64 P) (.node (o83 P) (lf (xq P)) (lf (ve P))) (.node (vQ P) (lf (vv P)) (lf (wP P)))))) (.node (boot_o_6 P) (.node (boot_o_10 P) (.node (o54 P) (.node (o70 P) (.node (tC P) (lf (wL P)) .nil) (lf (xf P))) (.node (o92 P) (lf (xk P)) (lf (wX P)))) (.node (o62 P) (.node (o81 P) (lf (xt P)) (lf (xc P))) (.node (tE P) (lf (vy P)) (lf (zm P))))) (.node (o46 P) (.node (o58 P) (.node (o77 P) (lf (vJ P)) (lf (vk P))) (.node (o96 P) (lf (vB P)) (lf (zn P)))) (.node (o66 P) (.node (o85 P) (lf (vG P)) (lf (wZ P))) (.node (vO P) (lf (xg P)) (lf (wN P)))))))))
noncomputable def jH:Params→W.BT:=(fun P=>(.node (boot_o_0 P) (.node (boot_o_1 P) (.node (CY P) (.node (boot_o_7 P) (.node (o51 P) (.node (vI P) (.node (vN P) (.node (zk P) (lf (AC P)) .nil) (.node (yy P) (lf (CE P)) .nil)) (.node (vr P) (.node (yT P) (lf (CZ P)) .nil) (lf (Bb P)))) (.node (o89 P) (.node (vF P) (.node (zf P) (lf (Dg P)) .nil) (.node (Bm P) (lf (EE P)) .nil)) (.node (wY P) (.node (Bv P) (lf (EP P)) .nil) (lf (Dq P))))) (.node (o59 P) (.node (o78 P) (.node (vH P) (.node (BK P) (lf (Aw P)) .nil) (.node (Bn P) (lf (EH P)) .nil)) (.node (vj P) (.node (Bz P) (lf (CU P)) .nil) (lf (AV P)))) (.node (o97 P) (.node (xi P) (.node (yZ P) (lf (Ak P)) .nil) (lf (Dx P))) (.node (wU P) (.node (yD P) (lf (EM P)) .nil) (lf (AI P)))))) (.node (o43 P) (.node (o55 P) (.node (o74 P) (.node (tB P) (.node (BP P) (lf (Az P)) .nil) (.node (yv P) (lf (EI P)) .nil)) (.node (vn P) (.node (BA P) (lf (EU P)) .nil) (lf (AY P)))) (.node (o93 P) (.node (vD P) (.node (zc P) (lf (Am P)) .nil) (.node (Dy P) (lf (ED P)) .nil)) (.node (zo P) (.node (Bu P) (lf (CM P)) .nil) (lf (Dp P))))) (.node (o63 P) (.node (o82 P) (.node (xr P) (.node (BH P) (lf (Dh P)) .nil) (.node (yo P) (lf (Cv P)) .nil)) (.node (vf P) (.node (yL P) (lf (ER P)) .nil) (lf (AQ P)))) (.node (tD P) (.node (xh P) (.node (yW P) (lf (Ai P)) .nil) (lf (Be P))) (.node (zl P) (.node (yB P) (lf (EL P)) .nil) (lf (AF P))))))) (.node (boot_o_5 P) (.node (boot_o_9 P) (.node (o53 P) (.node (o69 P) (.node (vL P) (.node (wM P) (lf (Dk P)) .nil) (.node (yx P) (lf (CD P)) .nil)) (.node (vp P) (.node (yS P) (lf (Ae P)) .nil) (lf (Du P)))) (.node (o91 P) (.node (xl P) (.node (zd P) (lf (Ao P)) .nil) (.node (Bk P) (lf (Cr P)) .nil)) (.node (uY P) (.node (yH P) (lf (CO P)) .nil) (lf (AM P))))) (.node (o61 P) (.node (o80 P) (.node (xu P) (.node (BI P) (lf (Av P)) .nil) (.node (yq P) (lf (Cw P)) .nil)) (.node (xd P) (.node (yN P) (lf (CS P)) .nil) (lf (AU P)))) (.node (o99 P) (.node (vz P) (.node (BD P) (lf (Dc P)) .nil) (lf (Bf P))) (.node (wQ P) (.node (Br P) (lf (CI P)) .nil) (lf (AG P)))))) (.node (o45 P) (.node (o57 P) (.node (o76 P) (.node (vK P) (.node (BM P) (lf (Ay P)) .nil) (.node (yu P) (lf (CA P)) .nil)) (.node (xe P) (.node (yP P) (lf (CV P)) .nil) (lf (Dt P)))) (.node (o95 P) (.node (vC P) (.node (BE P) (lf (Dd P)) .nil) (.node (Bi P) (lf (Cp P)) .nil)) (.node (wV P) (.node (yF P) (lf (CL P)) .nil) (lf (AJ P))))) (.node (o65 P) (.node (o84 P) (.node (xp P) (.node (zg P) (lf (Aq P)) .nil) (.node (ym P) (lf (Ct P)) .nil)) (.node (vd P) (.node (yK P) (lf (CQ P)) .nil) (lf (AP P)))) (.node (vP P) (.node (vt P) (.node (yV P) (lf (Ag P)) .nil) (lf (Bc P))) (.node (wO P) (.node (Bq P) (lf (CG P)) .nil) (lf (Dl P)))))))) (.node (boot_o_2 P) (.node (boot_o_4 P) (.node (boot_o_8 P) (.node (o52 P) (.node (o68 P) (.node (vM P) (.node (zj P) (lf (AB P)) .nil) (.node (Bp P) (lf (EJ P)) .nil)) (.node (vq P) (.node (BB P) (lf (Af P)) .nil) (lf (Ba P)))) (.node (o90 P) (.node (vE P) (.node (ze P) (lf (Df P)) .nil) (.node (Bl P) (lf (Cs P)) .nil)) (.node (uZ P) (.node (yI P) (lf (EO P)) .nil) (lf (AN P))))) (.node (o60 P) (.node (o79 P) (.node (xv P) (.node (BJ P) (lf (Di P)) .nil) (.node (yr P) (lf (Cy P)) .nil)) (.node (vg P) (.node (Bx P) (lf (CT P)) .nil) (lf (Ds P)))) (.node (o98 P) (.node (vA P) (.node (yY P) (lf (Aj P)) .nil) (lf (Bg P))) (.node (wR P) (.node (Bs P) (lf (CJ P)) .nil) (lf (AH P)))))) (.node (EV P) (.node (o56 P) (.node (o75 P) (.node (tA P) (.node (BO P) (lf (Dj P)) .nil) (.node (Bo P) (lf (CB P)) .nil)) (.node (vm P) (.node (yQ P) (lf (CW P)) .nil) (lf (AX P)))) (.node (o94 P) (.node (xj P) (.node (zb P) (lf (De P)) .nil) (.node (Bj P) (lf (EC P)) .nil)) (.node (wW P) (.node (Bt P) (lf (EN P)) .nil) (lf (AK P))))) (.node (o64 P) (.node (o83 P) (.node (xq P) (.node (zh P) (lf (Ar P)) .nil) (.node (yn P) (lf (Cu P)) .nil)) (.node (ve P) (.node (Bw P) (lf (CR P)) .nil) (lf (Dr P)))) (.node (vQ P) (.node (vv P) (.node (BC P) (lf (Ah P)) .nil) (lf (Bd P))) (.node (wP P) (.node (yA P) (lf (EK P)) .nil) (lf (AE P))))))) (.node (boot_o_6 P) (.node (boot_o_10 P) (.node (o54 P) (.node (o70 P) (.node (tC P) (.node (wL P) (lf (AA P)) .nil) (.node (yw P) (lf (CC P)) .nil)) (.node (xf P) (.node (yR P) (lf (CX P)) .nil) (lf (AZ P)))) (.node (o92 P) (.node (xk P) (.node (BF P) (lf (An P)) .nil) (.node (Dz P) (lf (Cq P)) .nil)) (.node (wX P) (.node (yG P) (lf (CN P)) .nil) (lf (AL P))))) (.node (o62 P) (.node (o81 P) (.node (xt P) (.node (zi P) (lf (Au P)) .nil) (.node (yp P) (lf (EG P)) .nil)) (.node (xc P) (.node (yM P) (lf (ES P)) .nil) (lf (AR P)))) (.node (tE P) (.node (vy P) (.node (yX P) (lf (Db P)) .nil) (lf (Dw P))) (.node (zm P) (.node (yC P) (lf (CH P)) .nil) (lf (Dm P)))))) (.node (o46 P) (.node (o58 P) (.node (o77 P) (.node (vJ P) (.node (BL P) (lf (Ax P)) .nil) (.node (yt P) (lf (Cz P)) .nil)) (.node (vk P) (.node (yO P) (lf (ET P)) .nil) (lf (AW P)))) (.node (o96 P) (.node (vB P) (.node (za P) (lf (Al P)) .nil) (.node (Bh P) (lf (Co P)) .nil)) (.node (zn P) (.node (yE P) (lf (CK P)) .nil) (lf (Dn P))))) (.node (o66 P) (.node (o85 P) (.node (vG P) (.node (BG P) (lf (Ap P)) .nil) (.node (yl P) (lf (EF P)) .nil)) (.node (wZ P) (.node (yJ P) (lf (CP P)) .nil) (lf (AO P)))) (.node (vO P) (.node (xg P) (.node (yU P) (lf (Da P)) .nil) (lf (Dv P))) (.node (wN P) (.node (yz P) (lf (CF P)) .nil) (lf (AD P))))))))))
noncomputable def un:List Stmt:=[st 0,st 1,st 2,st 3]
noncomputable def um:List Stmt:=[st 4]
noncomputable def ul:List Stmt:=[st 5]
noncomputable def pS:List Stmt:=[st 6]
noncomputable def pR:List Stmt:=[st 7,st 8,st 9,st 10,st 11,st 12,st 13,st 14,st 15]
noncomputable def pQ:List Stmt:=[st 16,st 17,st 18,st 19]
noncomputable def pP:List Stmt:=[st 20]
noncomputable def pO:List Stmt:=[st 21,st 22,st 23,st 24,st 25,st 26,st 27,st 28,st 29,st 30,st 31,st 32,st 33,st 34,st 35]
noncomputable def pN:List Stmt:=[st 36,st 37,st 38,st 39,st 40,st 41,st 42,st 43,st 44]
noncomputable def av:Program:={ prog with main:={ prog.main with body:=[st 1,st 3,st 4,st 5,st 6,st 7,st 9,st 10,st 11,st 12,st 14,st 15,st 16,st 17,st 18,st 20,st 22,st 23,st 24,st 26,st 27,st 28,st 29,st 30,st 31,st 32,st 33,st 34,st 35,st 36,st 37,st 38,st 39,st 40,st 41,st 42,st 43,st 44]}}
noncomputable def ads:List Addr:=[2,3,15,17,18,20,21,22,29,30,31,32,35,42,43,44,47,54,55,56,59,66,67,68,71,78,79,80,83,85,86,88,89,90,92,93,95,96,97,99,100,102,103,104,107,108,109,112,113,114,116,117,119,120,121,124,125,126,129,130,138,140,141,143,144,145,147,148,150,151,152,154,155,157,158,159,161,162,164,165,166,169,170,171,173,174,176,177,178,181,182,183,186,187,188,190,191,193,194,195,197,198,200,201,202,203,204,205,206,209,212,213,214,216,217,219,220,221,223,224,226,227,228,230,231,233,234,235,237,238,240,241,242,244,245,247,248,249,251,252,254,255,256,258,259,261,262,263,265,266,268,269,270,273,274,275,278,279,280,283,284,285,288,289,290,292,293,295,296,297,300,301,302,305,306,307,309,310,312,313,314,317,318,319,321,322,324,325,326,328,329,331,332,333,336,337,338,341,342]
noncomputable def nP:Params→Frag:=fun P=>[(2,boot_o_2 P),(3,CY P),(15,o51 P),(17,o53 P),(18,o54 P),(20,o56 P),(21,o57 P),(22,o58 P),(29,o65 P),(30,o66 P),(31,vI P),(32,o68 P),(35,o74 P),(42,o81 P),(43,o82 P),(44,o83 P),(47,o89 P),(54,o96 P),(55,o97 P),(56,o98 P),(59,tD P),(66,tC P),(67,tB P),(68,tA P),(71,vH P),(78,vG P),(79,vF P),(80,vE P),(83,vD P),(85,vC P),(86,vB P),(88,vA P),(89,vz P),(90,vy P),(92,vv P),(93,vt P),(95,vr P),(96,vq P),(97,vp P),(99,vn P),(100,vm P),(102,vk P),(103,vj P),(104,vg P),(107,vf P),(108,ve P),(109,vd P),(112,uZ P),(113,uY P),(114,wX P),(116,wW P),(117,wV P),(119,wU P),(120,wR P),(121,wQ P),(124,wP P),(125,wO P),(126,wN P),(129,wM P),(130,wL P),(138,zi P),(140,zh P),(141,zg P),(143,zf P),(144,ze P),(145,zd P),(147,zc P),(148,zb P),(150,za P),(151,yZ P),(152,yY P),(154,yX P),(155,yW P),(157,yV P),(158,yU P),(159,yT P),(161,yS P),(162,yR P),(164,yQ P),(165,yP P),(166,yO P),(169,yN P),(170,yM P),(171,yL P),(173,yK P),(174,yJ P),(176,yI P),(177,yH P),(178,yG P),(181,yF P),(182,yE P),(183,yD P),(186,yC P),(187,yB P),(188,yA P),(190,yz P),(191,yy P),(193,yx P),(194,yw P),(195,yv P),(197,yu P),(198,yt P),(200,yr P),(201,yq P),(202,yp P),(203,yo P),(204,yn P),(205,ym P),(206,yl P),(209,Bk P),(212,Bj P),(213,Bi P),(214,Bh P),(216,Bg P),(217,Bf P),(219,Be P),(220,Bd P),(221,Bc P),(223,Bb P),(224,Ba P),(226,AZ P),(227,AY P),(228,AX P),(230,AW P),(231,AV P),(233,AU P),(234,AR P),(235,AQ P),(237,AP P),(238,AO P),(240,AN P),(241,AM P),(242,AL P),(244,AK P),(245,AJ P),(247,AI P),(248,AH P),(249,AG P),(251,AF P),(252,AE P),(254,AD P),(255,AC P),(256,AB P),(258,AA P),(259,Az P),(261,Ay P),(262,Ax P),(263,Aw P),(265,Av P),(266,Au P),(268,Ar P),(269,Aq P),(270,Ap P),(273,Ao P),(274,An P),(275,Am P),(278,Al P),(279,Ak P),(280,Aj P),(283,Ai P),(284,Ah P),(285,Ag P),(288,Af P),(289,Ae P),(290,CX P),(292,CW P),(293,CV P),(295,CU P),(296,CT P),(297,CS P),(300,CR P),(301,CQ P),(302,CP P),(305,CO P),(306,CN P),(307,CM P),(309,CL P),(310,CK P),(312,CJ P),(313,CI P),(314,CH P),(317,CG P),(318,CF P),(319,CE P),(321,CD P),(322,CC P),(324,CB P),(325,CA P),(326,Cz P),(328,Cy P),(329,Cw P),(331,Cv P),(332,Cu P),(333,Ct P),(336,Cs P),(337,Cr P),(338,Cq P),(341,Cp P),(342,Co P)]
noncomputable def hk:=kHook nP ads (fun _=>by kernel_rfl)
theorem i46: ∀ w:World,((fun os:OsState=>(Fast.tw15667345088766844465 Fast.tw14364793385576792824 prog w 11 (.some (.ref 6)) 12 ⟨(W.boot_heap (World.params w)),⟨[]⟩,W.boot_drawn,W.boot_toks,os⟩ (W.topStub prog)))=(fun os=>(.some ⟨⟨(nN (World.params w)),⟨[]⟩,⟨0,0,0,0⟩,187,os⟩,⟨(Fast.tw11892475500146522536 Fast.tw14364793385576792824 (.body (behindTheImports prog) aF)),(.body (behindTheImports prog) aF),⟨0,0,0,0⟩,[(topFrame ⟨0,0,0,0⟩)]⟩⟩))):=by intro w; kernel_rfl
theorem i48: ∀ w:World,((fun os:OsState=>(Fast.tw14374325043358763698 Fast.tw14364793385576792824 prog w 11 (.some (.ref 6)) 1 1 ⟨(nN (World.params w)),⟨[]⟩,⟨0,0,0,0⟩,187,os⟩ (W.blockOf (behindTheImports prog) aF (.body (behindTheImports prog) aF) ⟨0,0,0,0⟩ [(topFrame ⟨0,0,0,0⟩)])))=(fun os=>(.some ⟨.next,⟨(W.SharedT.abs ⟨(ni (World.params w)),15,⟨[],[],[],0,[],[],false,⟨[]⟩,[],0,false,false,false,0,[2000,10,10],false,0,true,[],[],0,false⟩,⟨[]⟩,⟨0,0,0,0⟩,187,os⟩),⟨(.body (behindTheImports prog) aF),⟨0,0,0,0⟩⟩⟩⟩))):=by intro w; kernel_rfl
theorem i70: ∀ w:World,((fun os:OsState=>(Fast.tw10110043849684766642 Fast.tw14364793385576792824 prog w 11 (.some (.ref 6)) 1 238 ⟨(ni (World.params w)),15,⟨[],[],[],0,[],[],false,⟨[]⟩,[],0,false,false,false,0,[2000,10,10],false,0,true,[],[],0,false⟩,⟨[]⟩,⟨0,0,0,0⟩,187,os⟩ (piecesOf un aF (.body (behindTheImports prog) aF) ⟨0,0,0,0⟩ [(topFrame ⟨0,0,0,0⟩)])))=(fun os=>(.some ⟨.next,⟨⟨(ng (World.params w)),35,⟨[],[],[],0,[],[],false,⟨[]⟩,[],0,false,false,false,0,[2000,10,10],false,0,true,[],[],0,false⟩,⟨[]⟩,⟨0,0,0,0⟩,220,os⟩,⟨(.body (behindTheImports prog) aF),⟨12,0,13,8⟩⟩⟩⟩))):=by intro w; kernel_rfl
theorem i85: ∀ w:World,((fun os:OsState=>(Fast.tw10110043849684766642 Fast.tw14364793385576792824 prog w 11 (.some (.ref 6)) 1 214 ⟨(ng (World.params w)),35,⟨[],[],[],0,[],[],false,⟨[]⟩,[],0,false,false,false,0,[2000,10,10],false,0,true,[],[],0,false⟩,⟨[]⟩,⟨0,0,0,0⟩,220,os⟩ (piecesOf um aF (.body (behindTheImports prog) aF) ⟨12,0,13,8⟩ [(topFrame ⟨0,0,0,0⟩)])))=(fun os=>(.some ⟨.next,⟨⟨(nc (World.params w)),47,⟨[],[],[],0,[],[],false,⟨[]⟩,[],0,false,false,false,0,[2000,10,10],false,0,true,[],[],0,false⟩,⟨[]⟩,⟨0,0,0,0⟩,236,os⟩,⟨(.body (behindTheImports prog) aF),⟨14,0,15,8⟩⟩⟩⟩))):=by intro w; kernel_rfl
theorem GL: ∀ w:World,((fun os:OsState=>(Fast.tw10110043849684766642 Fast.tw14364793385576792824 prog w 11 (.some (.ref 6)) 1 214 ⟨(nc (World.params w)),47,⟨[],[],[],0,[],[],false,⟨[]⟩,[],0,false,false,false,0,[2000,10,10],false,0,true,[],[],0,false⟩,⟨[]⟩,⟨0,0,0,0⟩,236,os⟩ (piecesOf ul aF (.body (behindTheImports prog) aF) ⟨14,0,15,8⟩ [(topFrame ⟨0,0,0,0⟩)])))=(fun os=>(.some ⟨.next,⟨⟨(jN (World.params w)),59,⟨[],[],[],0,[],[],false,⟨[]⟩,[],0,false,false,false,0,[2000,10,10],false,0,true,[],[],0,false⟩,⟨[]⟩,⟨0,0,0,0⟩,252,os⟩,⟨(.body (behindTheImports prog) aF),⟨16,0,17,8⟩⟩⟩⟩))):=by intro w; kernel_rfl
theorem GK: ∀ w:World,((fun os:OsState=>(Fast.tw10110043849684766642 Fast.tw14364793385576792824 prog w 11 (.some (.ref 6)) 1 214 ⟨(jN (World.params w)),59,⟨[],[],[],0,[],[],false,⟨[]⟩,[],0,false,false,false,0,[2000,10,10],false,0,true,[],[],0,false⟩,⟨[]⟩,⟨0,0,0,0⟩,252,os⟩ (piecesOf pS aF (.body (behindTheImports prog) aF) ⟨16,0,17,8⟩ [(topFrame ⟨0,0,0,0⟩)])))=(fun os=>(.some ⟨.next,⟨⟨(jM (World.params w)),71,⟨[],[],[],0,[],[],false,⟨[]⟩,[],0,false,false,false,0,[2000,10,10],false,0,true,[],[],0,false⟩,⟨[]⟩,⟨0,0,0,0⟩,268,os⟩,⟨(.body (behindTheImports prog) aF),⟨18,0,19,8⟩⟩⟩⟩))):=by intro w; kernel_rfl
theorem GJ: ∀ w:World,((fun os:OsState=>(Fast.tw10110043849684766642 Fast.tw14364793385576792824 prog w 11 (.some (.ref 6)) 1 383 ⟨(jM (World.params w)),71,⟨[],[],[],0,[],[],false,⟨[]⟩,[],0,false,false,false,0,[2000,10,10],false,0,true,[],[],0,false⟩,⟨[]⟩,⟨0,0,0,0⟩,268,os⟩ (piecesOf pR aF (.body (behindTheImports prog) aF) ⟨18,0,19,8⟩ [(topFrame ⟨0,0,0,0⟩)])))=(fun os=>(.some ⟨.next,⟨⟨(jL (World.params w)),114,⟨[],[],[],0,[],[],false,⟨[]⟩,[],0,false,false,false,0,[2000,10,10],false,0,true,[],[],0,false⟩,⟨[]⟩,⟨0,0,0,0⟩,326,os⟩,⟨(.body (behindTheImports prog) aF),⟨40,0,42,83⟩⟩⟩⟩))):=by intro w; kernel_rfl
theorem GI: ∀ w:World,((fun os:OsState=>(Fast.tw10110043849684766642 Fast.tw14364793385576792824 prog w 11 (.some (.ref 6)) 1 93 ⟨(jL (World.params w)),114,⟨[],[],[],0,[],[],false,⟨[]⟩,[],0,false,false,false,0,[2000,10,10],false,0,true,[],[],0,false⟩,⟨[]⟩,⟨0,0,0,0⟩,326,os⟩ (piecesOf pQ aF (.body (behindTheImports prog) aF) ⟨40,0,42,83⟩ [(topFrame ⟨0,0,0,0⟩)])))=(fun os=>(.some ⟨.next,⟨⟨(jK (World.params w)),131,⟨[],[],[],0,[],[],false,⟨[]⟩,[],0,false,false,false,0,[2000,10,10],false,0,true,[],[],0,false⟩,⟨[]⟩,⟨0,0,0,0⟩,349,os⟩,⟨(.body (behindTheImports prog) aF),⟨66,0,66,8⟩⟩⟩⟩))):=by intro w; kernel_rfl
theorem GH: ∀ w:World,((fun os:OsState=>(Fast.tw10110043849684766642 Fast.tw14364793385576792824 prog w 11 (.some (.ref 6)) 1 500 ⟨(jK (World.params w)),131,⟨[],[],[],0,[],[],false,⟨[]⟩,[],0,false,false,false,0,[2000,10,10],false,0,true,[],[],0,false⟩,⟨[]⟩,⟨0,0,0,0⟩,349,os⟩ (piecesOf pP aF (.body (behindTheImports prog) aF) ⟨66,0,66,8⟩ [(topFrame ⟨0,0,0,0⟩)])))=(fun os=>(.some ⟨.next,⟨⟨(jJ (World.params w)),209,⟨[],[],[],0,[],[],false,⟨[]⟩,[],0,false,false,false,0,[2000,10,10],false,0,true,[],[],0,false⟩,⟨[]⟩,⟨0,0,0,0⟩,445,os⟩,⟨(.body (behindTheImports prog) aF),⟨67,0,118,30⟩⟩⟩⟩))):=by intro w; kernel_rfl
theorem GG: ∀ w:World,((fun os:OsState=>(Fast.tw10110043849684766642 Fast.tw14364793385576792824 prog w 11 (.some (.ref 6)) 1 396 ⟨(jJ (World.params w)),209,⟨[],[],[],0,[],[],false,⟨[]⟩,[],0,false,false,false,0,[2000,10,10],false,0,true,[],[],0,false⟩,⟨[]⟩,⟨0,0,0,0⟩,445,os⟩ (piecesOf pO aF (.body (behindTheImports prog) aF) ⟨67,0,118,30⟩ [(topFrame ⟨0,0,0,0⟩)])))=(fun os=>(.some ⟨.next,⟨⟨(jI (World.params w)),290,⟨[],[],[],0,[],[],false,⟨[]⟩,[],0,false,false,false,0,[2000,10,10],false,0,true,[],[],0,false⟩,⟨[]⟩,⟨0,0,0,0⟩,550,os⟩,⟨(.body (behindTheImports prog) aF),⟨205,0,212,26⟩⟩⟩⟩))):=by intro w; kernel_rfl
theorem GF: ∀ w:World,((fun os:OsState=>(Fast.tw10110043849684766642 Fast.tw14364793385576792824 prog w 11 (.some (.ref 6)) 1 268 ⟨(jI (World.params w)),290,⟨[],[],[],0,[],[],false,⟨[]⟩,[],0,false,false,false,0,[2000,10,10],false,0,true,[],[],0,false⟩,⟨[]⟩,⟨0,0,0,0⟩,550,os⟩ (piecesOf pN aF (.body (behindTheImports prog) aF) ⟨205,0,212,26⟩ [(topFrame ⟨0,0,0,0⟩)])))=(fun os=>(.some ⟨.next,⟨⟨(jH (World.params w)),343,⟨[],[],[],0,[],[],false,⟨[]⟩,[],0,false,false,false,0,[2000,10,10],false,0,true,[],[],0,false⟩,⟨[]⟩,⟨0,0,0,0⟩,629,os⟩,⟨(.body (behindTheImports prog) aF),⟨297,0,316,33⟩⟩⟩⟩))):=by intro w; kernel_rfl
theorem GD: ∀ w:World,((fun os:OsState=>(Fast.tw14082659384304107361 Fast.tw14364793385576792824 prog w 11 (.some (.ref 6)) 2 (W.SharedT.abs ⟨(jH (World.params w)),343,⟨[],[],[],0,[],[],false,⟨[]⟩,[],0,false,false,false,0,[2000,10,10],false,0,true,[],[],0,false⟩,⟨[]⟩,⟨0,0,0,0⟩,629,os⟩) ⟨(W.doneF .next),(.body (behindTheImports prog) aF),⟨297,0,316,33⟩,[(topFrame ⟨0,0,0,0⟩)]⟩))=(fun os=>(.some ⟨(ak (World.params w)),⟨[]⟩,⟨0,0,0,0⟩,629,os⟩))):=by intro w; kernel_rfl
theorem GC: ∀ w:World,((⟨(Bool.and (Heap.isNs (W.boot_heap (World.params w)) mainGlobals) (BEq.beq (Array.size (⟨[]⟩:Array GenState)) 0)),⟨(Array.size (Heap.objs (W.boot_heap (World.params w)))),(Fast.tw8920871248978507458 (W.boot_heap (World.params w)) mainGlobals ⟨⟨[95,95,97,110,110,111,116,97,116,105,111,110,115,95,95]⟩⟩)⟩⟩:Bool×Nat×Option Value)=⟨true,⟨11,(.some (.ref 6))⟩⟩):=by intro w; kernel_rfl
theorem GB: ∀ w:World,((fun os:OsState=>(Bool.and (Bool.and (Bool.and (W.staticsOk (Fast.tw5923862056798008813 (Module.body (Program.main prog))) (W.boot_heap (World.params w)) (ak (World.params w))) (W.namesBound prog (ak (World.params w)))) (W.gensDone ⟨(ak (World.params w)),⟨[]⟩,⟨0,0,0,0⟩,629,os⟩)) (W.laidKept (W.boot_heap (World.params w)) (ak (World.params w)))))=(fun os=>true)):=by intro w; kernel_rfl
theorem GA: ∀ w:World,((fun os:OsState=>(Fast.tw5160383126252970620 (W.R.mapR (fun x2=>(DefRec.name x2)) (Fast.tw3399658132070893891 av)) (Fast.tw5991557255702980513 av) [] ⟨(Shared.heap ⟨(ak (World.params w)),⟨[]⟩,⟨0,0,0,0⟩,629,os⟩),⟨[]⟩,(Shared.drawn ⟨(ak (World.params w)),⟨[]⟩,⟨0,0,0,0⟩,629,os⟩),(Shared.toks ⟨(ak (World.params w)),⟨[]⟩,⟨0,0,0,0⟩,629,os⟩),(Shared.os ⟨(ak (World.params w)),⟨[]⟩,⟨0,0,0,0⟩,629,os⟩)⟩))=(fun os=>(PyProof.Rows.expectedOf av))):=by intro w; kernel_rfl
theorem Gz: ∀ w:World,((fun os:OsState=>(Heap.bltView (Shared.heap ⟨(ak (World.params w)),⟨[]⟩,⟨0,0,0,0⟩,629,os⟩)))=(fun os=>bltViewBooted)):=by intro w; kernel_rfl
theorem Gu: ∀ w:World,((fun os:OsState=>(Bool.and (Bool.and (Bool.and (Bool.and (Bool.and (Bool.and (Fast.tw10880121769531294198 (Shared.heap ⟨(ak (World.params w)),⟨[]⟩,⟨0,0,0,0⟩,629,os⟩) (Fast.tw821141287760084731 av []) (W.R.mapR (fun x2=>(DefRec.name x2)) (Fast.tw3399658132070893891 av)) (W.R.mapR (fun x2=>(Prod.fst x2)) (Fast.tw7409074990110511671 av)) (W.R.mapR (fun x2=>(ClsRec.name x2)) (Fast.tw13664370479719496447 av (Fast.tw821141287760084731 av [])))) (Fast.tw14722251495701143533 (Shared.heap ⟨(ak (World.params w)),⟨[]⟩,⟨0,0,0,0⟩,629,os⟩) (Fast.tw5923862056798008813 (Module.body (Program.main prog))))) (Heap.isNs (Shared.heap ⟨(ak (World.params w)),⟨[]⟩,⟨0,0,0,0⟩,629,os⟩) mainGlobals)) (Heap.isNs (Shared.heap ⟨(ak (World.params w)),⟨[]⟩,⟨0,0,0,0⟩,629,os⟩) builtinsNs)) (Fast.tw10994771534591457954 av (Shared.heap ⟨(ak (World.params w)),⟨[]⟩,⟨0,0,0,0⟩,629,os⟩))) (Bool.and (W.xlAt av [] ⟨(ak (World.params w)),⟨[]⟩,⟨0,0,0,0⟩,629,os⟩) (W.recOk (W.RowW.records (W.OpenRow.toRowW (Fast.tw2368527892694137696 lawT))) ⟨(ak (World.params w)),⟨[]⟩,⟨0,0,0,0⟩,629,os⟩))) (ite (true=true) (BEq.beq (Array.size (Shared.gens ⟨(ak (World.params w)),⟨[]⟩,⟨0,0,0,0⟩,629,os⟩)) 0) (Bool.not (leftWithCleanup (Shared.gens ⟨(ak (World.params w)),⟨[]⟩,⟨0,0,0,0⟩,629,os⟩))))))=(fun os=>true)):=by intro w; kernel_rfl
theorem Gq: ∀ w:World,((fun os:OsState=>(Fast.tw479339242167458305 av ⟨(ak (World.params w)),⟨[]⟩,⟨0,0,0,0⟩,629,os⟩))=(fun os=>true)):=by intro w; kernel_rfl
theorem Gl: ∀ w:World,((fun os:OsState=>(Fast.tw16090120013241838585 av (Fast.tw3247288618530077131 av) ⟨(ak (World.params w)),⟨[]⟩,⟨0,0,0,0⟩,629,os⟩))=(fun os=>(pinGoodD (Fast.tw3247288618530077131 av)))):=by intro w; kernel_rfl
theorem Gk: ∀ w:World,((fun os:OsState=>(Fast.tw2386780881361962483 av (Fast.tw821141287760084731 av []) ⟨(ak (World.params w)),⟨[]⟩,⟨0,0,0,0⟩,629,os⟩))=(fun os=>(PyProof.Rows.plainGoodE av (Fast.tw821141287760084731 av [])))):=by intro w; kernel_rfl
theorem Gj: ∀ w:World,((fun os:OsState=>(Fast.tw11698064438423848299 av [] ⟨(ak (World.params w)),⟨[]⟩,⟨0,0,0,0⟩,629,os⟩))=(fun os=>(PyProof.Rows.plainGoodD av []))):=by intro w; kernel_rfl
theorem Gg: ∀ w:World,((fun os:OsState=>(Fast.tw7317090234206586261 av ⟨(ak (World.params w)),⟨[]⟩,⟨0,0,0,0⟩,629,os⟩))=(fun os=>(W.wideGood av))):=by intro w; kernel_rfl
theorem Ga: ∀ w:World,((fun os:OsState=>(Fast.tw7369524293546568484 av [] ⟨(ak (World.params w)),⟨[]⟩,⟨0,0,0,0⟩,629,os⟩))=(fun os=>(W.clsGoodW av []))):=by intro w; kernel_rfl
theorem FZ: ∀ w:World,((fun os:OsState=>(W.Hook.obs hk ⟨(ak (World.params w)),⟨[]⟩,⟨0,0,0,0⟩,629,os⟩))=(fun os=>(W.Hook.val hk w))):=by intro w; kernel_rfl
theorem u47: ∀ w:World,((fun os:OsState=>(W.topGo treeTable prog w 11 (.some (.ref 6)) 12 ⟨(W.boot_heap (World.params w)),⟨[]⟩,W.boot_drawn,W.boot_toks,os⟩ (W.topStub prog)))=(fun os=>(.some ⟨⟨(nN (World.params w)),⟨[]⟩,⟨0,0,0,0⟩,187,os⟩,⟨(denote treeTable (.body (behindTheImports prog) aF)),(.body (behindTheImports prog) aF),⟨0,0,0,0⟩,[(topFrame ⟨0,0,0,0⟩)]⟩⟩))):=by
 intro w
 rw [Fast.te15667345088766844465,Fast.te14364793385576792824,Fast.te11892475500146522536]
 exact i46 w
theorem u49: ∀ w:World,((fun os:OsState=>(W.segRun treeTable prog w 11 (.some (.ref 6)) 1 1 ⟨(nN (World.params w)),⟨[]⟩,⟨0,0,0,0⟩,187,os⟩ (W.blockOf (behindTheImports prog) aF (.body (behindTheImports prog) aF) ⟨0,0,0,0⟩ [(topFrame ⟨0,0,0,0⟩)])))=(fun os=>(.some ⟨.next,⟨(W.SharedT.abs ⟨(ni (World.params w)),15,⟨[],[],[],0,[],[],false,⟨[]⟩,[],0,false,false,false,0,[2000,10,10],false,0,true,[],[],0,false⟩,⟨[]⟩,⟨0,0,0,0⟩,187,os⟩),⟨(.body (behindTheImports prog) aF),⟨0,0,0,0⟩⟩⟩⟩))):=by
 intro w
 rw [Fast.te14374325043358763698,Fast.te14364793385576792824]
 exact i48 w
theorem u71: ∀ w:World,((fun os:OsState=>(W.segRunT treeTable prog w 11 (.some (.ref 6)) 1 238 ⟨(ni (World.params w)),15,⟨[],[],[],0,[],[],false,⟨[]⟩,[],0,false,false,false,0,[2000,10,10],false,0,true,[],[],0,false⟩,⟨[]⟩,⟨0,0,0,0⟩,187,os⟩ (piecesOf un aF (.body (behindTheImports prog) aF) ⟨0,0,0,0⟩ [(topFrame ⟨0,0,0,0⟩)])))=(fun os=>(.some ⟨.next,⟨⟨(ng (World.params w)),35,⟨[],[],[],0,[],[],false,⟨[]⟩,[],0,false,false,false,0,[2000,10,10],false,0,true,[],[],0,false⟩,⟨[]⟩,⟨0,0,0,0⟩,220,os⟩,⟨(.body (behindTheImports prog) aF),⟨12,0,13,8⟩⟩⟩⟩))):=by
 intro w
 rw [Fast.te10110043849684766642,Fast.te14364793385576792824]
 exact i70 w
theorem u86: ∀ w:World,((fun os:OsState=>(W.segRunT treeTable prog w 11 (.some (.ref 6)) 1 214 ⟨(ng (World.params w)),35,⟨[],[],[],0,[],[],false,⟨[]⟩,[],0,false,false,false,0,[2000,10,10],false,0,true,[],[],0,false⟩,⟨[]⟩,⟨0,0,0,0⟩,220,os⟩ (piecesOf um aF (.body (behindTheImports prog) aF) ⟨12,0,13,8⟩ [(topFrame ⟨0,0,0,0⟩)])))=(fun os=>(.some ⟨.next,⟨⟨(nc (World.params w)),47,⟨[],[],[],0,[],[],false,⟨[]⟩,[],0,false,false,false,0,[2000,10,10],false,0,true,[],[],0,false⟩,⟨[]⟩,⟨0,0,0,0⟩,236,os⟩,⟨(.body (behindTheImports prog) aF),⟨14,0,15,8⟩⟩⟩⟩))):=by
 intro w
 rw [Fast.te10110043849684766642,Fast.te14364793385576792824]
 exact i85 w
theorem FF: ∀ w:World,((fun os:OsState=>(W.segRunT treeTable prog w 11 (.some (.ref 6)) 1 214 ⟨(nc (World.params w)),47,⟨[],[],[],0,[],[],false,⟨[]⟩,[],0,false,false,false,0,[2000,10,10],false,0,true,[],[],0,false⟩,⟨[]⟩,⟨0,0,0,0⟩,236,os⟩ (piecesOf ul aF (.body (behindTheImports prog) aF) ⟨14,0,15,8⟩ [(topFrame ⟨0,0,0,0⟩)])))=(fun os=>(.some ⟨.next,⟨⟨(jN (World.params w)),59,⟨[],[],[],0,[],[],false,⟨[]⟩,[],0,false,false,false,0,[2000,10,10],false,0,true,[],[],0,false⟩,⟨[]⟩,⟨0,0,0,0⟩,252,os⟩,⟨(.body (behindTheImports prog) aF),⟨16,0,17,8⟩⟩⟩⟩))):=by
 intro w
 rw [Fast.te10110043849684766642,Fast.te14364793385576792824]
 exact GL w
theorem FE: ∀ w:World,((fun os:OsState=>(W.segRunT treeTable prog w 11 (.some (.ref 6)) 1 214 ⟨(jN (World.params w)),59,⟨[],[],[],0,[],[],false,⟨[]⟩,[],0,false,false,false,0,[2000,10,10],false,0,true,[],[],0,false⟩,⟨[]⟩,⟨0,0,0,0⟩,252,os⟩ (piecesOf pS aF (.body (behindTheImports prog) aF) ⟨16,0,17,8⟩ [(topFrame ⟨0,0,0,0⟩)])))=(fun os=>(.some ⟨.next,⟨⟨(jM (World.params w)),71,⟨[],[],[],0,[],[],false,⟨[]⟩,[],0,false,false,false,0,[2000,10,10],false,0,true,[],[],0,false⟩,⟨[]⟩,⟨0,0,0,0⟩,268,os⟩,⟨(.body (behindTheImports prog) aF),⟨18,0,19,8⟩⟩⟩⟩))):=by
 intro w
 rw [Fast.te10110043849684766642,Fast.te14364793385576792824]
 exact GK w
theorem FD: ∀ w:World,((fun os:OsState=>(W.segRunT treeTable prog w 11 (.some (.ref 6)) 1 383 ⟨(jM (World.params w)),71,⟨[],[],[],0,[],[],false,⟨[]⟩,[],0,false,false,false,0,[2000,10,10],false,0,true,[],[],0,false⟩,⟨[]⟩,⟨0,0,0,0⟩,268,os⟩ (piecesOf pR aF (.body (behindTheImports prog) aF) ⟨18,0,19,8⟩ [(topFrame ⟨0,0,0,0⟩)])))=(fun os=>(.some ⟨.next,⟨⟨(jL (World.params w)),114,⟨[],[],[],0,[],[],false,⟨[]⟩,[],0,false,false,false,0,[2000,10,10],false,0,true,[],[],0,false⟩,⟨[]⟩,⟨0,0,0,0⟩,326,os⟩,⟨(.body (behindTheImports prog) aF),⟨40,0,42,83⟩⟩⟩⟩))):=by
 intro w
 rw [Fast.te10110043849684766642,Fast.te14364793385576792824]
 exact GJ w
theorem FB: ∀ w:World,((fun os:OsState=>(W.segRunT treeTable prog w 11 (.some (.ref 6)) 1 93 ⟨(jL (World.params w)),114,⟨[],[],[],0,[],[],false,⟨[]⟩,[],0,false,false,false,0,[2000,10,10],false,0,true,[],[],0,false⟩,⟨[]⟩,⟨0,0,0,0⟩,326,os⟩ (piecesOf pQ aF (.body (behindTheImports prog) aF) ⟨40,0,42,83⟩ [(topFrame ⟨0,0,0,0⟩)])))=(fun os=>(.some ⟨.next,⟨⟨(jK (World.params w)),131,⟨[],[],[],0,[],[],false,⟨[]⟩,[],0,false,false,false,0,[2000,10,10],false,0,true,[],[],0,false⟩,⟨[]⟩,⟨0,0,0,0⟩,349,os⟩,⟨(.body (behindTheImports prog) aF),⟨66,0,66,8⟩⟩⟩⟩))):=by
 intro w
 rw [Fast.te10110043849684766642,Fast.te14364793385576792824]
 exact GI w
theorem FA: ∀ w:World,((fun os:OsState=>(W.segRunT treeTable prog w 11 (.some (.ref 6)) 1 500 ⟨(jK (World.params w)),131,⟨[],[],[],0,[],[],false,⟨[]⟩,[],0,false,false,false,0,[2000,10,10],false,0,true,[],[],0,false⟩,⟨[]⟩,⟨0,0,0,0⟩,349,os⟩ (piecesOf pP aF (.body (behindTheImports prog) aF) ⟨66,0,66,8⟩ [(topFrame ⟨0,0,0,0⟩)])))=(fun os=>(.some ⟨.next,⟨⟨(jJ (World.params w)),209,⟨[],[],[],0,[],[],false,⟨[]⟩,[],0,false,false,false,0,[2000,10,10],false,0,true,[],[],0,false⟩,⟨[]⟩,⟨0,0,0,0⟩,445,os⟩,⟨(.body (behindTheImports prog) aF),⟨67,0,118,30⟩⟩⟩⟩))):=by
 intro w
 rw [Fast.te10110043849684766642,Fast.te14364793385576792824]
 exact GH w
theorem Fz: ∀ w:World,((fun os:OsState=>(W.segRunT treeTable prog w 11 (.some (.ref 6)) 1 396 ⟨(jJ (World.params w)),209,⟨[],[],[],0,[],[],false,⟨[]⟩,[],0,false,false,false,0,[2000,10,10],false,0,true,[],[],0,false⟩,⟨[]⟩,⟨0,0,0,0⟩,445,os⟩ (piecesOf pO aF (.body (behindTheImports prog) aF) ⟨67,0,118,30⟩ [(topFrame ⟨0,0,0,0⟩)])))=(fun os=>(.some ⟨.next,⟨⟨(jI (World.params w)),290,⟨[],[],[],0,[],[],false,⟨[]⟩,[],0,false,false,false,0,[2000,10,10],false,0,true,[],[],0,false⟩,⟨[]⟩,⟨0,0,0,0⟩,550,os⟩,⟨(.body (behindTheImports prog) aF),⟨205,0,212,26⟩⟩⟩⟩))):=by
 intro w
 rw [Fast.te10110043849684766642,Fast.te14364793385576792824]
 exact GG w
theorem Fy: ∀ w:World,((fun os:OsState=>(W.segRunT treeTable prog w 11 (.some (.ref 6)) 1 268 ⟨(jI (World.params w)),290,⟨[],[],[],0,[],[],false,⟨[]⟩,[],0,false,false,false,0,[2000,10,10],false,0,true,[],[],0,false⟩,⟨[]⟩,⟨0,0,0,0⟩,550,os⟩ (piecesOf pN aF (.body (behindTheImports prog) aF) ⟨205,0,212,26⟩ [(topFrame ⟨0,0,0,0⟩)])))=(fun os=>(.some ⟨.next,⟨⟨(jH (World.params w)),343,⟨[],[],[],0,[],[],false,⟨[]⟩,[],0,false,false,false,0,[2000,10,10],false,0,true,[],[],0,false⟩,⟨[]⟩,⟨0,0,0,0⟩,629,os⟩,⟨(.body (behindTheImports prog) aF),⟨297,0,316,33⟩⟩⟩⟩))):=by
 intro w
 rw [Fast.te10110043849684766642,Fast.te14364793385576792824]
 exact GF w
theorem Fx: ∀ w:World,((fun os:OsState=>(W.topRun treeTable prog w 11 (.some (.ref 6)) 2 (W.SharedT.abs ⟨(jH (World.params w)),343,⟨[],[],[],0,[],[],false,⟨[]⟩,[],0,false,false,false,0,[2000,10,10],false,0,true,[],[],0,false⟩,⟨[]⟩,⟨0,0,0,0⟩,629,os⟩) ⟨(W.doneF .next),(.body (behindTheImports prog) aF),⟨297,0,316,33⟩,[(topFrame ⟨0,0,0,0⟩)]⟩))=(fun os=>(.some ⟨(ak (World.params w)),⟨[]⟩,⟨0,0,0,0⟩,629,os⟩))):=by
 intro w
 rw [Fast.te14082659384304107361,Fast.te14364793385576792824]
 exact GD w
theorem Fw: ∀ w:World,((⟨(Bool.and (Heap.isNs (W.boot_heap (World.params w)) mainGlobals) (BEq.beq (Array.size (⟨[]⟩:Array GenState)) 0)),⟨(Array.size (Heap.objs (W.boot_heap (World.params w)))),(Heap.nsMap (W.boot_heap (World.params w)) mainGlobals q0)⟩⟩:Bool×Nat×Option Value)=⟨true,⟨11,(.some (.ref 6))⟩⟩):=by
 intro w
 rw [Fast.te8920871248978507458]
 exact GC w
theorem Fv: ∀ w:World,((fun os:OsState=>(Bool.and (Bool.and (Bool.and (W.staticsOk (importedModules (Module.body (Program.main prog))) (W.boot_heap (World.params w)) (ak (World.params w))) (W.namesBound prog (ak (World.params w)))) (W.gensDone ⟨(ak (World.params w)),⟨[]⟩,⟨0,0,0,0⟩,629,os⟩)) (W.laidKept (W.boot_heap (World.params w)) (ak (World.params w)))))=(fun os=>true)):=by
 intro w
 rw [Fast.te5923862056798008813]
 exact GB w
theorem Fu: ∀ w:World,((fun os:OsState=>(PyProof.Rows.seen (List.map (fun x2=>(DefRec.name x2)) (PyProof.Rows.recsOf av)) (PyProof.Rows.ownsOf av) [] ⟨(Shared.heap ⟨(ak (World.params w)),⟨[]⟩,⟨0,0,0,0⟩,629,os⟩),⟨[]⟩,(Shared.drawn ⟨(ak (World.params w)),⟨[]⟩,⟨0,0,0,0⟩,629,os⟩),(Shared.toks ⟨(ak (World.params w)),⟨[]⟩,⟨0,0,0,0⟩,629,os⟩),(Shared.os ⟨(ak (World.params w)),⟨[]⟩,⟨0,0,0,0⟩,629,os⟩)⟩))=(fun os=>(PyProof.Rows.expectedOf av))):=by
 intro w
 rw [Fast.te5160383126252970620,W.R.mapR_eq,Fast.te3399658132070893891,Fast.te5991557255702980513]
 exact GA w
theorem Ft: ∀ w:World,((fun os:OsState=>(Heap.bltView (Shared.heap ⟨(ak (World.params w)),⟨[]⟩,⟨0,0,0,0⟩,629,os⟩)))=(fun os=>bltViewBooted)):=by
 intro w
 rw []
 exact Gz w
theorem Fs: ∀ w:World,((fun os:OsState=>(Bool.and (Bool.and (Bool.and (Bool.and (Bool.and (Bool.and (Heap.keysOk (Shared.heap ⟨(ak (World.params w)),⟨[]⟩,⟨0,0,0,0⟩,629,os⟩) (W.looseW av []) (List.map (fun x2=>(DefRec.name x2)) (PyProof.Rows.recsOf av)) (List.map (fun x2=>(Prod.fst x2)) (PyProof.Rows.litsOf av)) (List.map (fun x2=>(ClsRec.name x2)) (PyProof.Rows.clssOf av (W.looseW av [])))) (Heap.accountedOkI (Shared.heap ⟨(ak (World.params w)),⟨[]⟩,⟨0,0,0,0⟩,629,os⟩) (importedModules (Module.body (Program.main prog))))) (Heap.isNs (Shared.heap ⟨(ak (World.params w)),⟨[]⟩,⟨0,0,0,0⟩,629,os⟩) mainGlobals)) (Heap.isNs (Shared.heap ⟨(ak (World.params w)),⟨[]⟩,⟨0,0,0,0⟩,629,os⟩) builtinsNs)) (PyProof.Rows.tablesOk av (Shared.heap ⟨(ak (World.params w)),⟨[]⟩,⟨0,0,0,0⟩,629,os⟩))) (Bool.and (W.xlAt av [] ⟨(ak (World.params w)),⟨[]⟩,⟨0,0,0,0⟩,629,os⟩) (W.recOk (W.RowW.records lawT.row.toRowW) ⟨(ak (World.params w)),⟨[]⟩,⟨0,0,0,0⟩,629,os⟩))) (ite (true=true) (BEq.beq (Array.size (Shared.gens ⟨(ak (World.params w)),⟨[]⟩,⟨0,0,0,0⟩,629,os⟩)) 0) (Bool.not (leftWithCleanup (Shared.gens ⟨(ak (World.params w)),⟨[]⟩,⟨0,0,0,0⟩,629,os⟩))))))=(fun os=>true)):=by
 intro w
 rw [Fast.te10880121769531294198,Fast.te821141287760084731,W.R.mapR_eq,Fast.te3399658132070893891,Fast.te7409074990110511671,Fast.te13664370479719496447,Fast.te14722251495701143533,Fast.te5923862056798008813,Fast.te10994771534591457954]
 exact Gu w
theorem Fq: ∀ w:World,((fun os:OsState=>(PyProof.Rows.tabsOk av ⟨(ak (World.params w)),⟨[]⟩,⟨0,0,0,0⟩,629,os⟩))=(fun os=>true)):=by
 intro w
 rw [Fast.te479339242167458305]
 exact Gq w
theorem Fp: ∀ w:World,((fun os:OsState=>(pinSeenD av (PyProof.Rows.drecsOf av) ⟨(ak (World.params w)),⟨[]⟩,⟨0,0,0,0⟩,629,os⟩))=(fun os=>(pinGoodD (PyProof.Rows.drecsOf av)))):=by
 intro w
 rw [Fast.te16090120013241838585,Fast.te3247288618530077131]
 exact Gl w
theorem Fo: ∀ w:World,((fun os:OsState=>(PyProof.Rows.plainSeenE av (W.looseW av []) ⟨(ak (World.params w)),⟨[]⟩,⟨0,0,0,0⟩,629,os⟩))=(fun os=>(PyProof.Rows.plainGoodE av (W.looseW av [])))):=by
 intro w
 rw [Fast.te2386780881361962483,Fast.te821141287760084731]
 exact Gk w
theorem Fn: ∀ w:World,((fun os:OsState=>(PyProof.Rows.plainSeenD av [] ⟨(ak (World.params w)),⟨[]⟩,⟨0,0,0,0⟩,629,os⟩))=(fun os=>(PyProof.Rows.plainGoodD av []))):=by
 intro w
 rw [Fast.te11698064438423848299]
 exact Gj w
theorem Fm: ∀ w:World,((fun os:OsState=>(W.wideSeen av ⟨(ak (World.params w)),⟨[]⟩,⟨0,0,0,0⟩,629,os⟩))=(fun os=>(W.wideGood av))):=by
 intro w
 rw [Fast.te7317090234206586261]
 exact Gg w
theorem Fl: ∀ w:World,((fun os:OsState=>(W.clsSeenW av [] ⟨(ak (World.params w)),⟨[]⟩,⟨0,0,0,0⟩,629,os⟩))=(fun os=>(W.clsGoodW av []))):=by
 intro w
 rw [Fast.te7369524293546568484]
 exact Ga w
theorem hb:behindTheImports prog=un++(um++(ul++(pS++(pR++(pQ++(pP++(pO++(pN++[])))))))):=by kernel_rfl
theorem run: ∀ (w:World) (os:OsState),((W.topRun treeTable prog w 11 (.some (.ref 6)) (Nat.add 12 (Nat.add 1 (Nat.add 238 (Nat.add 214 (Nat.add 214 (Nat.add 214 (Nat.add 383 (Nat.add 93 (Nat.add 500 (Nat.add 396 (Nat.add 268 2))))))))))) ⟨(W.boot_heap (World.params w)),⟨[]⟩,W.boot_drawn,W.boot_toks,os⟩ (W.topStub prog))=(.some ⟨(ak (World.params w)),⟨[]⟩,⟨0,0,0,0⟩,629,os⟩)):=by
 intro w os
 refine go_top (congrFun (u47 w) os) (piece_block (congrFun (u49 w) os) ?_)
 rw [congrArg restOf hb]
 exact (piece_app (segRun_of (congrFun (u71 w) os)) (piece_app (segRun_of (congrFun (u86 w) os)) (piece_app (segRun_of (congrFun (FF w) os)) (piece_app (segRun_of (congrFun (FE w) os)) (piece_app (segRun_of (congrFun (FD w) os)) (piece_app (segRun_of (congrFun (FB w) os)) (piece_app (segRun_of (congrFun (FA w) os)) (piece_app (segRun_of (congrFun (Fz w) os)) (piece_app (segRun_of (congrFun (Fy w) os)) (piece_nil (congrFun (Fx w) os)))))))))))
theorem p42:opening prog=plainProg prog.main.scope.names:=by kernel_rfl
theorem p43 (s:Shared):fenceModules? prog s=some s:=by kernel_rfl
theorem vT (w:World) (os:OsState):openSeen av [] (importedModules prog.main.body) (fun s=>xlAt av [] s && recOk lawT.row.toRowW.records s) true ⟨(ak (w.params)),⟨[]⟩,⟨0,0,0,0⟩,629,os⟩=openGood av []:=
 (looks_pair (congrFun (Fu w) os) (looks_pair (congrFun (Ft w) os) (looks_pair (congrFun (Fs w) os) (looks_pair (congrFun (Fq w) os) (looks_pair (congrFun (Fp w) os) (looks_pair (congrFun (Fo w) os) (looks_pair (congrFun (Fn w) os) (looks_pair (congrFun (Fm w) os) (congrFun (Fl w) os)))))))))
theorem left:LeftO prog av [] (fun s=>xlAt av [] s && recOk lawT.row.toRowW.records s) hk.obs hk.val 400000:=
 LeftO.of_pieces (boot_open p42 rfl p43) Fw run rfl fun w=>funext fun os=>looks_pair (congrFun (Fv w) os) (looks_pair (vT w os) (congrFun (FZ w) os))
noncomputable def EZ:DefRec:=⟨Str.ofString "law",fA (st 44),fB (st 44),fS (st 44),⟨297,0,316,33⟩⟩
theorem DB:LeftO lawT.row.prog av [] (fun s=>xlAt av [] s && recOk lawT.row.toRowW.records s) hk.obs hk.val 400000:=left
theorem GM (walk:WalkO av [] (XL av []) hk.says lawT.row.toRowW EZ [] (fun f vs=>call f vs)):PySem.Challenge.rw_uf050020_13.Holds:=by
 rw [zw]
 w_on; o_law
 rename_i said
 refine holds_open (N:=400000) DB hk.of hk.keeps (fun s e=>xl_of s (Bool.and_eq_true_iff.mp e).left) XL.keeps (d:=EZ) (kwd:=[]) ?a ?b ?c (fun s e=>recFacts_of (Bool.and_eq_true_iff.mp e).right) ?d said ?e ?f ?g walk
 case a=>kernel_rfl
 case b=>kernel_rfl
 case c=>kernel_rfl
 case d=>kernel_rfl
 case e=>first | k_qdec | kernel_rfl
 case f=>exact ⟨rfl,rfl,rfl,rfl,rfl,by first | k_qdec | kernel_rfl⟩
 case g=>exact ⟨[.list []],by decide +kernel,by decide +kernel⟩
end Mine
open PySem PySem.W PyProof.Rows
set_option maxHeartbeats 8000000
namespace Mine
noncomputable def nms:List String:=["BadBound", "BadName", "NoStore", "NoThing", "RoomError", "SIGNS", "Store", "ValueError", "__name__", "_law_at", "_law_before", "_law_behind", "_law_bits", "_law_board", "_law_board_holds", "_law_bound", "_law_bound_here", "_law_cell", "_law_cell_at", "_law_cut", "_law_deed", "_law_deeds", "_law_deeds_by", "_law_deeds_here", "_law_depth", "_law_fill", "_law_first", "_law_found", "_law_frame", "_law_heads", "_law_held", "_law_is_bits", "_law_is_room", "_law_is_thing", "_law_j", "_law_k", "_law_kept", "_law_kind", "_law_known", "_law_left", "_law_many", "_law_more", "_law_name", "_law_name_here", "_law_one", "_law_plain", "_law_room", "_law_room_here", "_law_rooms", "_law_rooms_hold", "_law_script", "_law_shape", "_law_share", "_law_sign", "_law_signs", "_law_store", "_law_told", "_law_value", "_law_whole", "_law_worth", "ahead", "append", "at", "before", "bits", "board", "bool", "both", "bound", "depth", "every", "extend", "figures", "find", "first", "found", "get", "held", "index", "int", "isinstance", "join", "last", "len", "list", "longer", "look", "max", "min", "mixed", "most", "name", "need_name", "number", "number_of", "own", "parted", "parts", "place", "places_of", "pop", "put", "range", "read", "room", "rooms", "rooms_for", "row", "rows", "self", "sign", "signs", "size", "sorted", "split", "startswith", "store", "str", "take", "text", "thing", "things", "tuple", "turn", "value", "value_in", "waiting", "with_thing", "without_thing", "word", "words", "written"]
noncomputable def msL:List (String×String):=[("put", "Store.put"),("take", "Store.take"),("find", "Store.find"),("look", "Store.look"),("size", "Store.size"),("depth", "Store.depth"),("board", "Store.board"),("rooms", "Store.rooms"),("things", "Store.things")]
theorem walk13:PySem.Challenge.rw_uf050020_13.Holds:=by
 apply GM
 intro w s₀ s₁ mg mb G Y fa o pm cd doc dV kV ho hd hcd hD hmg hg args vals as hpre hlay hrd hwl hlo
 have KX:=kIn_of Y
 refine Ground.open G ?_
 intro T B D TE TW
 let C:Cx:=FW lawT.row.prog w s₁ mg mb _ KX T.g T.b T.nolimit T.builtins ["places_of", "need_name", "mixed", "signs", "without_thing", "with_thing", "value_in", "parted", "rooms_for", "written", "number_of", "read", "_law_whole", "_law_cell_at", "_law_name", "_law_value", "_law_bound", "_law_room", "_law_deeds_by", "_law_behind", "_law_first", "_law_deeds", "_law_signs", "_law_fill", "_law_is_bits", "_law_is_thing", "_law_is_room", "_law_rooms_hold", "_law_board_holds", "_law_shape"] [("SIGNS",8)] (by kernel_rfl) 204 msL ["bound", "held"] (faK (nP w.params) 204 (("__init__", "Store.__init__")::msL)) (by kernel_rfl) (by kernel_rfl) (by kernel_rfl) ["BadName", "BadBound", "NoThing", "NoStore"] (wi KX (topRead_of T) (by kernel_rfl))
 have F_places_of:bc C "places_of" ["depth"] iC:=aq C KX (l:=nms) (n:=40) (by kernel_rfl) (iS fun _=>by kernel_rfl) (by kernel_rfl)
 have F_need_name:bc C "need_name" ["name"] iG:=aq C KX (l:=nms) (n:=40) (by kernel_rfl) (iS fun _=>by kernel_rfl) (by kernel_rfl)
 have F_mixed:bc C "mixed" ["name"] rI:=aq C KX (l:=nms) (n:=40) (by kernel_rfl) (iS fun _=>by kernel_rfl) (by kernel_rfl)
 have F_signs:bc C "signs" ["name"] rH:=aq C KX (l:=nms) (n:=40) (by kernel_rfl) (iS fun _=>by kernel_rfl) (by kernel_rfl)
 have F_without_thing:bc C "without_thing" ["things", "name"] dL:=aq C KX (l:=nms) (n:=40) (by kernel_rfl) (nH fun _ _=>by kernel_rfl) (by kernel_rfl)
 have F_with_thing:bc C "with_thing" ["things", "name", "value"] dM:=aq C KX (l:=nms) (n:=40) (by kernel_rfl) (vV fun _ _ _=>by kernel_rfl) (by kernel_rfl)
 have F_value_in:bc C "value_in" ["things", "name"] jy:=aq C KX (l:=nms) (n:=40) (by kernel_rfl) (nH fun _ _=>by kernel_rfl) (by kernel_rfl)
 have F_parted:bc C "parted" ["room"] oa:=aq C KX (l:=nms) (n:=40) (by kernel_rfl) (iS fun _=>by kernel_rfl) (by kernel_rfl)
 have F_rooms_for:bc C "rooms_for" ["things", "bound"] iB:=aq C KX (l:=nms) (n:=40) (by kernel_rfl) (nH fun _ _=>by kernel_rfl) (by kernel_rfl)
 have F_Store_init:bc C "Store.__init__" ["self", "bound"] fW:=aq C KX (l:=nms) (n:=40) (by kernel_rfl) (nH fun _ _=>by kernel_rfl) (by kernel_rfl)
 have F_Store_put:bc C "Store.put" ["self", "name", "value"] iO:=aq C KX (l:=nms) (n:=40) (by kernel_rfl) (vV fun _ _ _=>by kernel_rfl) (by kernel_rfl)
 have F_Store_take:bc C "Store.take" ["self", "name"] dN:=aq C KX (l:=nms) (n:=40) (by kernel_rfl) (nH fun _ _=>by kernel_rfl) (by kernel_rfl)
 have F_Store_find:bc C "Store.find" ["self", "name"] fX:=aq C KX (l:=nms) (n:=40) (by kernel_rfl) (nH fun _ _=>by kernel_rfl) (by kernel_rfl)
 have F_Store_look:bc C "Store.look" ["self", "name"] fV:=aq C KX (l:=nms) (n:=40) (by kernel_rfl) (nH fun _ _=>by kernel_rfl) (by kernel_rfl)
 have F_Store_size:bc C "Store.size" ["self"] fU:=aq C KX (l:=nms) (n:=40) (by kernel_rfl) (iS fun _=>by kernel_rfl) (by kernel_rfl)
 have F_Store_depth:bc C "Store.depth" ["self"] fc:=aq C KX (l:=nms) (n:=40) (by kernel_rfl) (iS fun _=>by kernel_rfl) (by kernel_rfl)
 have F_Store_board:bc C "Store.board" ["self"] fe:=aq C KX (l:=nms) (n:=40) (by kernel_rfl) (iS fun _=>by kernel_rfl) (by kernel_rfl)
 have F_Store_rooms:bc C "Store.rooms" ["self"] fb:=aq C KX (l:=nms) (n:=40) (by kernel_rfl) (iS fun _=>by kernel_rfl) (by kernel_rfl)
 have F_Store_things:bc C "Store.things" ["self"] er:=aq C KX (l:=nms) (n:=40) (by kernel_rfl) (iS fun _=>by kernel_rfl) (by kernel_rfl)
 have F_written:bc C "written" ["store"] lw:=aq C KX (l:=nms) (n:=40) (by kernel_rfl) (iS fun _=>by kernel_rfl) (by kernel_rfl)
 have F_number_of:bc C "number_of" ["word", "most"] iE:=aq C KX (l:=nms) (n:=40) (by kernel_rfl) (nH fun _ _=>by kernel_rfl) (by kernel_rfl)
 have F_read:bc C "read" ["text"] tU:=aq C KX (l:=nms) (n:=40) (by kernel_rfl) (iS fun _=>by kernel_rfl) (by kernel_rfl)
 have F__law_whole:bc C "_law_whole" ["_law_found"] iH:=aq C KX (l:=nms) (n:=40) (by kernel_rfl) (iS fun _=>by kernel_rfl) (by kernel_rfl)
 have F__law_cell_at:bc C "_law_cell_at" ["_law_script", "_law_k"] eZ:=aq C KX (l:=nms) (n:=40) (by kernel_rfl) (nH fun _ _=>by kernel_rfl) (by kernel_rfl)
 have F__law_name:bc C "_law_name" ["_law_script", "_law_more"] jA:=aq C KX (l:=nms) (n:=40) (by kernel_rfl) (nH fun _ _=>by kernel_rfl) (by kernel_rfl)
 have F__law_value:bc C "_law_value" ["_law_cell", "_law_k"] iI:=aq C KX (l:=nms) (n:=40) (by kernel_rfl) (nH fun _ _=>by kernel_rfl) (by kernel_rfl)
 have F__law_bound:bc C "_law_bound" ["_law_cell"] iM:=aq C KX (l:=nms) (n:=40) (by kernel_rfl) (iS fun _=>by kernel_rfl) (by kernel_rfl)
 have F__law_room:bc C "_law_room" ["_law_script"] jz:=aq C KX (l:=nms) (n:=40) (by kernel_rfl) (iS fun _=>by kernel_rfl) (by kernel_rfl)
 have F__law_deeds_by:bc C "_law_deeds_by" ["_law_script", "_law_k", "_law_known"] eo:=aq C KX (l:=nms) (n:=40) (by kernel_rfl) (vV fun _ _ _=>by kernel_rfl) (by kernel_rfl)
 have F__law_behind:bc C "_law_behind" ["_law_plain", "_law_deed"] fT:=aq C KX (l:=nms) (n:=40) (by kernel_rfl) (nH fun _ _=>by kernel_rfl) (by kernel_rfl)
 have F__law_first:bc C "_law_first" ["_law_script"] iK:=aq C KX (l:=nms) (n:=40) (by kernel_rfl) (iS fun _=>by kernel_rfl) (by kernel_rfl)
 have F__law_deeds:bc C "_law_deeds" ["_law_script"] iL:=aq C KX (l:=nms) (n:=40) (by kernel_rfl) (iS fun _=>by kernel_rfl) (by kernel_rfl)
 have F__law_signs:bc C "_law_signs" ["_law_name_here"] eW:=aq C KX (l:=nms) (n:=40) (by kernel_rfl) (iS fun _=>by kernel_rfl) (by kernel_rfl)
 have F__law_fill:bc C "_law_fill" ["_law_store", "_law_deeds_here", "_law_plain"] jB:=aq C KX (l:=nms) (n:=40) (by kernel_rfl) (vV fun _ _ _=>by kernel_rfl) (by kernel_rfl)
 have F__law_is_bits:bc C "_law_is_bits" ["_law_bits"] eY:=aq C KX (l:=nms) (n:=40) (by kernel_rfl) (iS fun _=>by kernel_rfl) (by kernel_rfl)
 have F__law_is_thing:bc C "_law_is_thing" ["_law_one"] em:=aq C KX (l:=nms) (n:=40) (by kernel_rfl) (iS fun _=>by kernel_rfl) (by kernel_rfl)
 have F__law_is_room:bc C "_law_is_room" ["_law_room_here", "_law_bound_here"] eX:=aq C KX (l:=nms) (n:=40) (by kernel_rfl) (nH fun _ _=>by kernel_rfl) (by kernel_rfl)
 have F__law_rooms_hold:bc C "_law_rooms_hold" ["_law_rooms", "_law_plain", "_law_bound_here"] dr:=aq C KX (l:=nms) (n:=40) (by kernel_rfl) (vV fun _ _ _=>by kernel_rfl) (by kernel_rfl)
 have F__law_board_holds:bc C "_law_board_holds" ["_law_board", "_law_rooms", "_law_depth"] cQ:=aq C KX (l:=nms) (n:=40) (by kernel_rfl) (vV fun _ _ _=>by kernel_rfl) (by kernel_rfl)
 have F__law_shape:bc C "_law_shape" ["_law_store", "_law_bound_here", "_law_plain"] iJ:=aq C KX (l:=nms) (n:=40) (by kernel_rfl) (vV fun _ _ _=>by kernel_rfl) (by kernel_rfl)
 have F_law:bc C "law" ["_law_script"] od:=aq C KX (l:=nms) (n:=40) (by kernel_rfl) (iS fun _=>by kernel_rfl) (by kernel_rfl)
 have need: ∀ {H:List HO} {n:Int},0≤n→n≤255→Calls C 1 "need_name" [.int n] H (.ok .none) H:=fun h0 h1=>zN (k:=0) F_need_name h0 h1
 have sgns: ∀ {H:List HO} (n:Int),0≤n→n≤255→Calls C 3 "signs" [.int n] H (.ok (.str (sgn n))) H:=fun n h0 h1=>DL (k:=2) F_signs rfl (wt (k:=1) F_mixed (need h0 h1))
 have put: ∀ {H:List HO} {i j:Nat} {b:Int} {ts:Ts} (n v:Int),cp H i j b ts→ts.length≤1000000→0≤n→n≤255→Calls C 2 "Store.put" [.loc i,.int n,.int v] H (.ok (gc ts n)) (H.set j (stA b (ce ts n v))):=fun n v S hl h0 h1=>DM (k:=1) F_Store_put S (need h0 h1) (ku (k:=0) F_value_in _ n) (zI (k:=0) F_with_thing _ n v hl)
 have rfor: ∀ {H:List HO} {b:Nat} {ts:Ts},ar H→Stk b ts→Calls C 5 "rooms_for" [.lst (ts.map pr),.int b] H (.ok (.lst ((ae b ts).map aH))) H:=fun hz g=>mK (k:=4) F_rooms_for hz g.b1 g.ok fun H x h1 h2=>rA (k:=3) F_parted x h1 h2 fun n h0 h1=>sgns n h0 h1
 have rms: ∀ {H:List HO} {i j b:Nat} {ts:Ts},ar H→Stk b ts→cp H i j b ts→Calls C 6 "Store.rooms" [.loc i] H (.ok (.lst ((ae b ts).map aH))) H:=fun hz g S=>wq (k:=5) F_Store_rooms S (fy _ _) (rfor hz g)
 have dep: ∀ {H:List HO} {i j b:Nat} {ts:Ts},ar H→Stk b ts→cp H i j b ts→Calls C 7 "Store.depth" [.loc i] H (.ok (.int (az (ae b ts):Nat))) H:=fun hz g S=>wx (k:=6) F_Store_depth hz S (ez 8 [] _) (rms hz g S)
 have plc: ∀ {H:List HO} {b:Nat} {ts:Ts},Stk b ts→Calls C 1 "places_of" [.int (az (ae b ts):Nat)] H (.ok (.lst ((aU (az (ae b ts))).map .str))) H:=fun g=>td (k:=0) F_places_of (kq g)
 have brd: ∀ {H:List HO} {i j b:Nat} {ts:Ts},ar H→Stk b ts→cp H i j b ts→Calls C 8 "Store.board" [.loc i] H (.ok (.lst ((bL (ae b ts)).map .str))) H:=fun hz g S=>wz (k:=7) F_Store_board hz g S ((rfor hz g).mono (by decide)) (fun H hz S=>dep hz g S) fun H=>(plc g).mono (by decide)
 have look: ∀ {H:List HO} {i j b:Nat} {ts:Ts} {n:Int},ar H→Stk b ts→cp H i j b ts→0≤n→n≤255→∃ u,Calls C 10 "Store.look" [.loc i,.int n] H (.ok u) H:=fun hz g S h0 h1=>⟨_,(zP (k:=8) F_Store_look hz g S ((need h0 h1).mono (by decide)) ((dep hz g S).mono (by decide)) (fun m h=>(sgns m (h.elim (fun e=>e▸h0) (·.1)) (h.elim (fun e=>e▸h1) (·.2))).mono (by decide)) ((plc g).mono (by decide)) (brd hz g S)).mono (by decide)⟩
 have wr: ∀ {H:List HO} {i j b:Nat} {ts:Ts},ar H→Stk b ts→cp H i j b ts→Calls C 7 "written" [.loc i] H (.ok (.str (iW b ts))) H:=fun hz g S=>rx (k:=6) F_written hz g S fun H hz S=>rms hz g S
 have val: ∀ {H:List HO} (c j:Int),Calls C 1 "_law_value" [.int c,.int j] H (.ok (.int (cA c j))) H:=fun c j=>DK (k:=0) F__law_value c j
 have lsg: ∀ (H:List HO) (n:Int),Calls C 1 "_law_signs" [.int n] H (.ok (.str (sgn n))) H:=fun H n=>th (k:=0) F__law_signs n
 have hfa:C.fa "law" =some fa:=by
  obtain ⟨a,e⟩:=Option.isSome_iff_exists.mp (show (xw (nP w.params) "law").isSome=true by kernel_rfl)
  have h:=mg_of KX T.g (mz e)
  rw [show mg "law" =some (.ref fa) from hmg] at h
  cases h
  exact (show C.fa "law" =xw (nP w.params) "law" by kernel_rfl).trans e
 refine vY (C:=C) (k:=11) (n:=63) rfl rfl rfl hg rfl (by decide) hpre hwl hfa (by decide) fun ns hn=>?_
 have cell: ∀ (H:List HO) (j:Nat),Calls C 1 "_law_cell_at" [.lst (ns.map .int),.int j] H (.ok (.int (ns.getD j 0))) H:=fun H j=>rD (k:=0) F__law_cell_at ns j
 refine wu (k:=10) F_law ⟨fun hz g S hd=>(ww (k:=2) F__law_fill hz S g.ok g.vals hd (fun H ts d S ho dk=>put _ _ S (Nat.le_trans (ny ho) (by decide)) dk.1.1 dk.1.2) (fun H ts d v S dk hv=>zJ (k:=1) F_Store_take S (need dk.1.1 dk.1.2) (ku (k:=0) F_value_in _ _) hv (ry (k:=0) F_without_thing _ _)) (fun H ts d hz S dk hv=>wo (k:=1) F_Store_take hz S (need dk.1.1 dk.1.2) (ku (k:=0) F_value_in _ _) hv) (fun H ts d h=>(nY (k:=0) F__law_behind h d).mono (by decide))).mono (by decide),
  fun S=>(tc (k:=0) F_Store_things S).mono (by decide),fun hz g S=>(rms hz g S).mono (by decide),fun hz g S=>(brd hz g S).mono (by decide),fun hz g S h0 h1=>look hz g S h0 h1,fun S h0 h1=>(zQ (k:=1) F_Store_find S (need h0 h1) (ku (k:=0) F_value_in _ _)).mono (by decide),fun S=>(zK (k:=0) F_Store_size S).mono (by decide),
  fun hz g S=>wp (k:=9) F__law_shape hz S ((rms hz g S).mono (by decide)) (fun x hx=>(rB (k:=2) F__law_is_room (hM g hx) ((rC (k:=0) F__law_is_bits (hM g hx).len (hM g hx).bits).mono (by decide)) (fun t=>pk (k:=1) F__law_is_thing t fun n=>rz (k:=0) F__law_whole n) (fun n=>(lsg _ n).mono (by decide))).mono (by decide)) ((lr (k:=1) F__law_rooms_hold hz g lsg).mono (by decide)) ((dep hz g S).mono (by decide)) (fun n=>(rz (k:=0) F__law_whole n).mono (by decide)) ((brd hz g S).mono (by decide)) ((kv (k:=0) F__law_board_holds g).mono (by decide)),
  fun hz g S=>(wr hz g S).mono (by decide),
  fun hz g=>(zM (k:=7) F_read hz g (fun H i most h1 h2=>(te (k:=0) F_number_of i h1 h2).mono (by decide)) ((tO (k:=0) F_Store_init tu tv (Int.ofNat_le.mpr g.b1) (Int.ofNat_le.mpr g.b64)).mono (by decide)) (fun us n v hl h0 h1=>(put n v stAt2 hl h0 h1).mono (by decide)) (wr (mj hz (fun _=>HO.noConfusion) fun _=>HO.noConfusion) g stAt2)).mono (by decide)⟩ hn
  (fun H j=>(cell H j).mono (by decide)) (fun H c=>(DN (k:=0) F__law_bound c).mono (by decide)) (fun h1 h2 hb hb'=>(tO (k:=0) F_Store_init h1 h2 hb hb').mono (by decide))
  (fun hz=>(wy (k:=3) F__law_deeds hz hn ((wv (k:=1) F__law_first (cell _ 1) val).mono (by decide)) (fun H=>(zL (k:=0) F__law_room hn).mono (by decide)) (fun H j known hj=>GS (k:=2) F__law_deeds_by hj known (fun H m=>zO (k:=1) F__law_name m (cell _ 1)) (fun H c j=>(val c j).mono (by decide)) (fun _ _=>rfl)) (fun H ts d h=>(nY (k:=0) F__law_behind h d).mono (by decide))).mono (by decide))
end Mine
set_option maxRecDepth 100000 in
set_option maxHeartbeats 8000000 in
theorem PySem.Challenge.cw_uf050020_13_holds : PySem.Challenge.rw_uf050020_13.Holds := by
  exact Mine.walk13
