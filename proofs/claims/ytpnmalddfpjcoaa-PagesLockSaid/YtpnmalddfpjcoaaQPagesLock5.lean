/- PagesLock returns true for every input, and leaves what it was handed as it was. No condition. -/
import Derived.Test.YtpnmalddfpjcoaaQPagesLock4
import Derived.Deep.Slices
import Derived.ChangeShapes
import Derived.Carry
import Derived.OpenShut
import Derived.SizedLaws
import Derived.Test.YtpnmalddfpjcoaaRows
import Derived.ProofKit
import Derived.JoinedOf
set_option linter.all false
set_option linter.deprecated false
namespace Go.Sh
open Go.Ab
def usedL:List (List Int)->Nat->Int
 | [],_=>0
 | s :: l,q=>s.getD q 0 + usedL l q
theorem usedL_pos:∀ {l:List (List Int)} {q:Nat},(∀ i,i < l.length->0<=(l.getD i []).getD q 0)->0<=usedL l q:=by
 intro l
 induction l with
 | nil=>intro q _; exact Int.le_refl _
 | cons s l ih =>
  intro q h
  have h0:0<=s.getD q 0:=h 0 (Nat.succ_pos _)
  have h1:=ih (q:=q) (fun i hi=>h (i + 1) (Nat.succ_lt_succ hi))
  show 0<=s.getD q 0 + usedL l q
  omega
theorem manyL_append (a b:List (List Int)):manyL (a ++ b)=manyL a + manyL b:=by
 induction a with
 | nil=>show manyL b=0 + manyL b; omega
 | cons s a ih=>show sumS s + manyL (a ++ b)=sumS s + manyL a + manyL b; omega
theorem isLay_iff {f:Frm}:∀ {rooms:List Span} {left:List Int} {l:List (List Int)},(∀ q,q < left.length->0<=left.getD q 0)->(IsLay f rooms left l ↔ l.length=rooms.length ∧
  (∀ i,i < rooms.length->(l.getD i []).length=left.length/\(∀ q,q < left.length->0<=(l.getD i []).getD q 0)/\within (pointsP f (l.getD i [])) (rooms.getD i ⟨0,0⟩).lo (rooms.getD i ⟨0,0⟩).hi=true) ∧
  ∀ q,q < left.length->usedL l q<=left.getD q 0):=by
 intro rooms
 induction rooms with
 | nil =>
  intro left l h
  cases l with
  | nil=>exact ⟨fun _=>⟨rfl,fun i hi=>absurd hi (Nat.not_lt_zero _),fun q hq=>h q hq⟩,fun _=>True.intro⟩
  | cons s l=>exact ⟨fun h=>h.elim,fun h=>absurd h.1 (by simp)⟩
 | cons r rs ih =>
  intro left l h
  cases l with
  | nil=>exact ⟨fun h=>h.elim,fun h=>absurd h.1 (by simp)⟩
  | cons s l =>
   simp only [IsLay]
   rw [mem_setsP h]
   constructor
   ·rintro ⟨⟨h1,h2⟩,h3,h4⟩
    have hr:∀ q,q < (restL left s).length->0<=(restL left s).getD q 0:=by
     intro q hq
     rw [restL_len] at hq
     rw [restL_get hq]
     have:=h2 q hq
     omega
    obtain ⟨g1,g2,g3⟩:=(ih hr).1 h4
    rw [restL_len] at g2 g3
    refine ⟨by rw [List.length_cons,List.length_cons,g1],fun i hi => ?_,fun q hq => ?_⟩
    ·cases i with
     | zero=>exact ⟨h1,fun q hq=>(h2 q hq).1,h3⟩
     | succ i=>exact g2 i (Nat.lt_of_succ_lt_succ hi)
    ·have:=g3 q hq
     rw [restL_get hq] at this
     show s.getD q 0 + usedL l q<=_
     omega
   ·rintro ⟨h1,h2,h3⟩
    have h1':l.length=rs.length:=Nat.succ.inj h1
    have h0:=h2 0 (Nat.succ_pos _)
    have hu:∀ q,q < left.length->0<=usedL l q:=fun q hq=>usedL_pos (fun i hi=>(h2 (i + 1) (Nat.succ_lt_succ (by omega))).2.1 q hq)
    have h3':∀ q,q < left.length->s.getD q 0 + usedL l q<=left.getD q 0:=h3
    have hs:∀ q,q < left.length->0<=s.getD q 0/\s.getD q 0<=left.getD q 0:=fun q hq=>by
     have a:=h0.2.1 q hq
     have b:=hu q hq
     have c:=h3' q hq
     have a':0<=s.getD q 0:=a
     omega
    refine ⟨⟨h0.1,hs⟩,h0.2.2,?_⟩
    have hr:∀ q,q < (restL left s).length->0<=(restL left s).getD q 0:=by
     intro q hq
     rw [restL_len] at hq
     rw [restL_get hq]
     have:=hs q hq
     omega
    refine (ih hr).2 ⟨h1',fun i hi => ?_,fun q hq => ?_⟩
    ·rw [restL_len]; exact h2 (i + 1) (Nat.succ_lt_succ hi)
    ·rw [restL_len] at hq
     rw [restL_get hq]
     have:=h3' q hq
     omega
def LayF (f:Frm) (w:Int) (l:List (List Int)):Prop:=IsLay f (roomsTo f w f.columns.length) (stockTo f f.strips.length) l
theorem rooms_get {f:Frm} {w:Int} {n i:Nat} (h:i < n):(roomsTo f w n).getD i ⟨0,0⟩=roomP f (highP f (delW (col f i) (bitP w))):=by
 rw [getD_lt _ _ (by rw [rooms_len]; exact h)]; unfold roomsTo; rw [List.getElem_map,List.getElem_range]
def sureH (f:Frm) (s:Span) (n:Int):Prop:=f.length - f.slack<=s.lo + n/\s.hi + n<=f.length
theorem within_room {f:Frm} {s:Span} {n:Int} (h:0<=n):within n (roomP f s).lo (roomP f s).hi=true ↔ sureH f s n:=by
 rw [within_iff]; unfold roomP sureH; simp only; omega
theorem pts_pos {f:Frm} (hs:Sound f) {s:List Int} (h1:s.length=f.strips.length) (h2:∀ q,q < f.strips.length->0<=s.getD q 0):0<=pointsP f s:=by
 unfold pointsP
 have:∀ k,k<=s.length->0<=ptTo f s k:=by
  intro k
  induction k with
  | zero=>intro _; exact Int.le_refl 0
  | succ k ih =>
   intro hk
   rw [pt_succ]
   have:=ih (by omega)
   have h4:=hs.strip k (by omega)
   have h3:0<=s.getD k 0 * (stp f k).thick:=Int.mul_nonneg (h2 k (by omega)) (by omega)
   omega
 exact this _ (Nat.le_refl _)
theorem layF_iff {f:Frm} (hs:Sound f) {w:Int} {l:List (List Int)}:LayF f w l ↔ l.length=f.columns.length ∧
  (∀ i,i < f.columns.length->(l.getD i []).length=f.strips.length/\(∀ q,q < f.strips.length->0<=(l.getD i []).getD q 0)/\sureH f (highP f (delW (col f i) (bitP w))) (pointsP f (l.getD i []))) ∧
  ∀ q,q < f.strips.length->usedL l q<=(stp f q).many:=by
 unfold LayF
 rw [isLay_iff (stock_good hs).nonneg,rooms_len,stock_len]
 constructor
 ·rintro ⟨h1,h2,h3⟩
  refine ⟨h1,fun i hi => ?_,fun q hq=>by rw [← stock_get hq]; exact h3 q hq⟩
  obtain ⟨a,b,c⟩:=h2 i hi
  refine ⟨a,b,?_⟩
  rw [rooms_get hi] at c
  exact (within_room (pts_pos hs a b)).1 c
 ·rintro ⟨h1,h2,h3⟩
  refine ⟨h1,fun i hi => ?_,fun q hq=>by rw [stock_get hq]; exact h3 q hq⟩
  obtain ⟨a,b,c⟩:=h2 i hi
  refine ⟨a,b,?_⟩
  rw [rooms_get hi]
  exact (within_room (pts_pos hs a b)).2 c
theorem whole_some {f:Frm} {w:Int} {x:List (List Int) × Int} (h:wholeP f w=some x):LayF f w x.1/\x.2=manyL x.1 /\ ∀ l,LayF f w l->x.2<=manyL l/\(manyL l=x.2->l=x.1 ∨ earlierL x.1 l):=by
 unfold wholeP at h
 rw [lock_fm] at h
 obtain ⟨h1,h2,h3⟩:=fm_some (laysR_sort _ _ _) h
 exact ⟨mem_laysR.1 h1,h2,fun l hl=>h3 l (mem_laysR.2 hl)⟩
end Go.Sh
namespace Go.Sh
open Go.Ab
theorem bit_zero (p:Int):bitP 0 p=false:=by
 unfold bitP; rw [Int.zero_ediv]; rfl
theorem del_zero (l:List Int):delW l (bitP 0)=l:=by
 unfold delW; rw [List.filter_eq_self]; intro p _; rw [bit_zero]; rfl
end Go.Sh
namespace Go.Sh
open Go.Ab
def laysC (f:Frm):Nat->List Int->List (List (List Int))
 | 0,_=>[[]]
 | m + 1,left=>(setsP left).flatMap fun s=>if sureP f (f.columns.length - (m + 1)) (pointsP f s) then (laysC f m (restL left s)).map (s :: ·) else []
theorem good_mem {f:Frm} {left s:List Int} (h:GoodLeft f left) (hs:s ∈ setsP left):∃ i,i < prodL left/\s=setN left i:=by
 rw [setsP_eq] at hs
 obtain ⟨i,hi,e⟩:=List.mem_map.1 hs
 exact ⟨i,List.mem_range.1 hi,e.symm⟩
theorem sure_room {f:Frm} (hs:Sound f) (c:Nat) {n:Int} (hn:0<=n):sureP f c n=within n (roomP f (highP f (col f c))).lo (roomP f (highP f (col f c))).hi:=by
 rw [Bool.eq_iff_iff,within_room hn]
 have h:=high_bound' hs (col_good hs c)
 have h2:=hs.slack
 unfold sureP lockedAt sureH
 rw [Bool.and_eq_true,within_iff,within_iff]
 omega
theorem flatMap_congr' {α β:Type} {f g:α->List β}:∀ {l:List α},(∀ x,x ∈ l->f x=g x)->l.flatMap f=l.flatMap g:=by
 intro l
 induction l with
 | nil=>intro _; rfl
 | cons x l ih =>
  intro h
  rw [List.flatMap_cons,List.flatMap_cons,h x (by simp),ih (fun y hy=>h y (by simp [hy]))]
theorem laysC_eq {f:Frm} (hs:Sound f):∀ (m:Nat) (left:List Int),m<=f.columns.length->GoodLeft f left->laysC f m left=laysR f ((roomsTo f 0 f.columns.length).drop (f.columns.length - m)) left:=by
 intro m
 induction m with
 | zero=>intro left _ _; rw [Nat.sub_zero,List.drop_of_length_le (by rw [rooms_len]; exact Nat.le_refl _)]; rfl
 | succ m ih =>
  intro left hm hl
  have hc:f.columns.length - (m + 1) < f.columns.length:=by omega
  rw [drop_cons ⟨0,0⟩ (by rw [rooms_len]; exact hc),rooms_get hc,del_zero,laysC,laysR]
  refine flatMap_congr' fun s hs' => ?_
  obtain ⟨i,hi,rfl⟩:=good_mem hl hs'
  rw [sure_room hs _ (pts_bound hs (hl.isSet hi)).1,ih _ (by omega) (hl.rest hi),show f.columns.length - (m + 1) + 1=f.columns.length - m by omega]
theorem laysC_all {f:Frm} (hs:Sound f):laysC f f.columns.length (stockTo f f.strips.length)=laysR f (roomsTo f 0 f.columns.length) (stockTo f f.strips.length):=by
 rw [laysC_eq hs _ _ (Nat.le_refl _) (stock_good hs),Nat.sub_self]; rfl
theorem whole_lays {f:Frm} (hs:Sound f):wholeP f 0=fmL (laysC f f.columns.length (stockTo f f.strips.length)):=by
 rw [laysC_all hs]; unfold wholeP; rw [lock_fm]
theorem fm_isSome (ls:List (List (List Int))):(fmL ls).isSome=decide ((ls.length:Int) > 0):=by
 cases e:fmL ls with
 | none=>rw [fm_none e]; rfl
 | some x =>
  cases ls with
  | nil=>cases e
  | cons y ls=>simp
theorem laysC_len {f:Frm} (hs:Sound f):∀ (m:Nat) (left:List Int),GoodLeft f left->prodL left<=30->(laysC f m left).length<=30 ^ m:=by
 intro m
 induction m with
 | zero=>intro left _ _; exact Nat.le_refl _
 | succ m ih =>
  intro left hl hp
  rw [laysC]
  have h1:=flatMap_len (fun s=>if sureP f (f.columns.length - (m + 1)) (pointsP f s) then (laysC f m (restL left s)).map (s :: ·) else []) (30 ^ m) (setsP left) (fun s hs'=>by
   obtain ⟨i,hi,rfl⟩:=good_mem hl hs'
   split
   ·rw [List.length_map]
    refine ih _ (hl.rest hi) (Nat.le_trans ?_ hp)
    have:∀ (a b:List Int),a.length=b.length->(∀ q,q < a.length->a.getD q 0<=b.getD q 0)->prodL a<=prodL b:=by
     intro a
     induction a with
     | nil=>intro b h _; rw [List.eq_nil_of_length_eq_zero h.symm]; exact Nat.le_refl _
     | cons x a iha =>
      intro b h h2
      match b,h,h2 with
      | y :: b,h,h2 =>
       have h0:x<=y:=h2 0 (Nat.succ_pos _)
       exact Nat.mul_le_mul (by omega) (iha b (Nat.succ.inj h) (fun q hq=>h2 (q + 1) (Nat.succ_lt_succ hq)))
    refine this _ _ (restL_len _ _) (fun q hq => ?_)
    rw [restL_len] at hq
    rw [restL_get hq]
    have:=hl.set hi q hq
    omega
   ·exact Nat.zero_le _)
  have h2:(setsP left).length=prodL left:=by rw [setsP_eq,List.length_map,List.length_range]
  rw [h2] at h1
  exact Nat.le_trans h1 (by rw [Nat.pow_succ,Nat.mul_comm]; exact Nat.mul_le_mul_left _ hp)
end Go.Sh
namespace Go.Sh
open Go.Ab
structure AsGood (f o:Frm):Prop where
 strips:o.strips.length=f.strips.length
 thick:∀ i,(stp o i).thick=(stp f i).thick
 many:∀ i,i < f.strips.length->(stp f i).many<=(stp o i).many
 columns:o.columns=f.columns
 length:o.length=f.length
 slack:f.slack<=o.slack
 pieces:o.pieces.length=f.pieces.length
 high:∀ i,(pc f i).lo<=(pc o i).lo/\(pc o i).hi<=(pc f i).hi
 pence:∀ i,(pc o i).pence=(pc f i).pence
end Go.Sh
namespace Go.Sh
open Go.Ab
variable {f:Frm}
end Go.Sh
namespace Go.Sh
structure Plc where
 column:Int
 set:List Int
 one:Int
 other:Int
def stockedF (f:Frm) (k:Nat) (m:Int):Frm:={ f with strips:=f.strips.set k { stp f k with many:=m } }
def exP:Frm:=⟨60,2,[⟨5,2⟩,⟨3,2⟩,⟨18,1⟩],[⟨20,21,9⟩,⟨30,30,5⟩,⟨40,41,7⟩,⟨12,13,4⟩],[[0,1],[2,3]]⟩
def exO:Frm:=stockedF exP 1 3
end Go.Sh
namespace Go.En
open Go Go.Ab Go.Sh
def cPlc (x:Plc):List AV:=[iv x.column,aInts x.set,iv x.one,iv x.other]
abbrev vPlc (x:Plc):AV := .agg (cPlc x)
end Go.En
namespace Go.Ab
open Go Go.RowKit Go.Proofs Go.Sh Go.En
def ou31 (f:Frm):OutSpec:={ args:=[vFrm f],pre:=smallF f,res := .agg [iv f.length,iv f.slack,.vec 0,.vec 1,.vec 2],hout:=[(0,.vec 65 2 f.strips.length (fun i=>cStrip (stp f i))),(1,.vec 46 3 f.pieces.length (fun i=>cPiece (pc f i))),(2,.vec 27 1 f.columns.length (fun i=>[aInts (col f i)]))] }
def h31 (f:Frm):Hint:={ X:=Nat,M:=fun i=>[(4,iv i)],H:=fun i=>[(120,.cells 26 [iv f.length,iv f.slack,.vec 72,.vec 104,.vec 5000]),(5000,.vec 27 1 i (fun k=>[aInts (col f k)]))],I:=fun i=>i<=f.columns.length,mu:=fun i=>f.columns.length - i,x0:=(0:Nat),nx:=fun i=>i + 1 }
def s31o (f:Frm) (id:Nat):CallSpec:=(ou31 f).at [(0,id),(1,id + 1),(2,id + 2)]
def s49 (f:Frm) (k m:Int):CallSpec:={ args:=[vFrm f,iv k,iv m],res:=vFrm (stockedF f k.toNat m),pre:=smallF f/\0<=k/\k < f.strips.length }
def c49 (f:Frm) (k m:Int) (id:Nat):CallSpec:=s31o f id
def s82:CallSpec:={ args:=[],res := .tup [vFrm exP,vFrm exO] }
def c82:CallSpec:=s49 exP 1 3
def s82o (f o:Frm):CallSpec:={ args:=[],res := .tup [vFrm f,vFrm o],pre:=f=exP/\o=exO }
def sw20 (f o:Frm):CallSpec:={ args:=[],res:=bv true,pre:=f=exP/\o=exO }
def c20a (f o:Frm):CallSpec:=s82o f o
def c20b (f o:Frm):CallSpec:=s36 o 0 [2,0,0]
def c20c (f o:Frm):CallSpec:=s40 (refuseL f) [3]
def s20:CallSpec:={ args:=[],res:=bv true }
def s3 (f:Frm) (x:Plc):CallSpec:={ args:=[vFrm f,vPlc x],res:=bv true,pre:=fitsF f/\x.set.length<=big }
end Go.Ab
namespace Go.Ab
open Go Go.RowKit Go.Proofs Go.Sh Go.En
theorem wo31 (f:Frm)
  (o0:smallF f->0 + List.length (Frm.strips f)<=65536)
  (o1:smallF f->0 + List.length (Frm.pieces f)<=65536)
  (o2:smallF f->0=(↑0:Int))
  (o3:smallF f->0<=List.length (Frm.columns f))
  (o4:smallF f -> ∀ (x0:Nat),x0<=f.columns.length->decide ((x0:Int) < (↑(f.columns.length):Int))=true->0<=(x0:Int))
  (o5:smallF f -> ∀ (x0:Nat),x0<=f.columns.length->decide ((x0:Int) < (↑(f.columns.length):Int))=true->(x0:Int) < (↑(f.columns.length):Int))
  (o6:smallF f -> ∀ (x0:Nat),x0<=f.columns.length->decide ((x0:Int) < (↑(f.columns.length):Int))=true->0 + (col f x0).length<=65536)
  (o7:smallF f -> ∀ (x0:Nat),x0<=f.columns.length->decide ((x0:Int) < (↑(f.columns.length):Int))=true->x0 + 1<=65536)
  (o8:smallF f -> ∀ (x0:Nat),x0<=f.columns.length->decide ((x0:Int) < (↑(f.columns.length):Int))=true->inI ((x0:Int) + 1))
  (o9:smallF f -> ∀ (x0:Nat),x0<=f.columns.length->decide ((x0:Int) < (↑(f.columns.length):Int))=true->(x0:Int) + 1=(↑(x0 + 1):Int))
  (o10:smallF f -> ∀ (x0:Nat),x0<=f.columns.length->decide ((x0:Int) < (↑(f.columns.length):Int))=true -> ∀ (i2:Nat),i2 < x0 + 1->catF x0 (fun (k:Nat)=>[aInts (col f k)]) (fun (j:Nat)=>List.getD [[AV.sl 1 (0 + (col f x0).length) fun (i:Nat)=>[iv ((col f x0).getD i 0)]]] j (TI.za ti27)) i2 = [aInts (col f i2)])
  (o11:smallF f -> ∀ (x0:Nat),x0<=f.columns.length->decide ((x0:Int) < (↑(f.columns.length):Int))=true->x0 + 1<=f.columns.length)
  (o12:smallF f -> ∀ (x0:Nat),x0<=f.columns.length->decide ((x0:Int) < (↑(f.columns.length):Int))=true->f.columns.length - (x0 + 1) < f.columns.length - x0)
  (o13:smallF f -> ∀ (x0:Nat),x0<=f.columns.length->decide ((x0:Int) < (↑(f.columns.length):Int))=false->0 + f.strips.length=f.strips.length)
  (o14:smallF f -> ∀ (x0:Nat),x0<=f.columns.length->decide ((x0:Int) < (↑(f.columns.length):Int))=false->0 + f.pieces.length=f.pieces.length)
  (o15:smallF f -> ∀ (x0:Nat),x0<=f.columns.length->decide ((x0:Int) < (↑(f.columns.length):Int))=false->x0=f.columns.length)
  (l:List (Nat × Nat)) (hl:l.map (·.1)=(OutSpec.hout (ou31 f)).map (·.1)) (hnd:(l.map (·.2)).Nodup) :
  Triple Try.prog 31 (OutSpec.at (ou31 f) l):=by
 refine triple_out Try.func31 rfl Try.call31 T0_ok _ _ _ _ l rfl (Nat.le_of_ble_eq_true (by kernel_rfl)) hl hnd (by kernel_rfl) (by kernel_rfl) (by kernel_rfl) ?_
 intro hpre C hC hE
 obtain ⟨P,w0,E0,av,hA,ro,df⟩:=C
 obtain ⟨rfl,rfl,rfl⟩:=hC
 refine swp_seq ?_
 refine zR [1,2] [0,8] (Ak 2 tv) ?_
 refine swp_seq ?_
 refine zR [1,2,3] [0,8,120,72,104] (Ak 7 (An (o0 hpre) (Ak 3 (An (o1 hpre) (Ak 3 tv))))) ?_
 refine swp_seq ?_
 refine swp_seq ?_
 refine zR [1,2,3,4] [0,8,120,72,104] (Ak 1 tv) ?_
 refine swp_block ?_
 refine zL (Hint.ann (h31 f) [(1,AV.ptr 0 []),(2,AV.ptr 8 []),(3,AV.ptr 120 [])] [(0,OB.cells 26 (cFrm f)),(8,OB.cells 26 [iv 0,iv 0,nilv,nilv,nilv]),(72,OB.vec 65 2 (0 + f.strips.length) fun (i:Nat)=>cStrip (stp f i)),(104,OB.vec 46 3 (0 + f.pieces.length) fun (i:Nat)=>cPiece (pc f i))] 10144) (zE hE [] [(0,.same 0),(8,.same 8),(120,.same 120),(72,.same 72),(104,.same 104),(5000,.nil)] [] [0,8,72,104] (An (An (An (zr (some (Src.same 0))) (zr nilP)) (An (An (zr (some (Src.same 8))) (zr nilP)) (An (An (zr (some (Src.same 120))) (zr nilP)) (An (An (ci (o2 hpre)) (zr nilN)) tv)))) (An (An (An (zr (OB.cells 26 (cFrm f))) (zr true)) (An (An (zr (OB.cells 26 [iv 0,iv 0,nilv,nilv,nilv])) (zr true)) (An (An (zr (OB.vec 65 2 (0 + f.strips.length) fun (i:Nat)=>cStrip (stp f i))) (zr true)) (An (An (zr (OB.vec 46 3 (0 + f.pieces.length) fun (i:Nat)=>cPiece (pc f i))) (zr true)) (An (An (zr 26) (An (An (An (zr (iv f.length)) (zr nilN)) (An (An (zr (iv f.slack)) (zr nilN)) (An (zr (some (Src.same 72))) (An (zr (some (Src.same 104))) (An (zr (some Src.nil)) tv))))) (zr true))) (An (zr 0) tv)))))) (An (zr true) (zr true))))) (o3 hpre) (fun (x0:Nat) hx0 => ?_)
 refine swp_seq ?_
 refine swp_seq ?_
 refine zR [1,2,3,4,22] [0,8,120,72,104,5000] (Ak 5 tv) ?_
 refine zI (decide ((x0:Int) < (↑(f.columns.length):Int))) (fun y1 => ?_) (fun y1 => ?_)
 ·refine swp_skip ?_
  refine swp_seq ?_
  refine swp_block ?_
  refine zR [1,2,3,4] [0,8,120,72,104,10264] (Ak 6 (An (An (o4 hpre x0 hx0 y1) (o5 hpre x0 hx0 y1)) (Ak 1 (An (o6 hpre x0 hx0 y1) (Ak 1 (An (o7 hpre x0 hx0 y1) (Ak 2 tv))))))) ?_
  refine zR [1,2,3,4] [0,8,120,72,104,10264] (Ak 1 (An (o8 hpre x0 hx0 y1) (Ak 1 tv))) ?_
  exact zn (zE hE [] [(0,.same 0),(8,.same 8),(120,.same 120),(72,.same 72),(104,.same 104),(5000,.same 10264)] [] [0,8,72,104] (An (An (An (zr (some (Src.same 0))) (zr nilP)) (An (An (zr (some (Src.same 8))) (zr nilP)) (An (An (zr (some (Src.same 120))) (zr nilP)) (An (An (ci (o9 hpre x0 hx0 y1)) (zr nilN)) tv)))) (An (An (An (zr (OB.cells 26 (cFrm f))) (zr true)) (An (An (zr (OB.cells 26 [iv 0,iv 0,nilv,nilv,nilv])) (zr true)) (An (An (zr (OB.vec 65 2 (0 + f.strips.length) fun (i:Nat)=>cStrip (stp f i))) (zr true)) (An (An (zr (OB.vec 46 3 (0 + f.pieces.length) fun (i:Nat)=>cPiece (pc f i))) (zr true)) (An (An (zr 26) (An (An (An (zr (iv f.length)) (zr nilN)) (An (An (zr (iv f.slack)) (zr nilN)) (An (zr (some (Src.same 72))) (An (zr (some (Src.same 104))) (An (zr (some (Src.same 10264))) tv))))) (zr true))) (An (An (zr 27) (An (zr 1) (An (zr (x0 + 1)) (fun (i2:Nat)=>(fun (y3:i2 < x0 + 1)=>(o10 hpre x0 hx0 y1 i2 y3)))))) tv)))))) (An (zr true) (zr true))))) (o11 hpre x0 hx0 y1) (o12 hpre x0 hx0 y1)
 ·refine swp_exit ?_
  refine swp_seq ?_
  refine zR [2] [8,72,104,5000] (Ak 2 tv) ?_
  refine swp_ret ?_
  exact zO (ASt.mk [(2,AV.ptr 90 [])] [(90,OB.cells 26 [iv f.length,iv f.slack,AV.vec 0,AV.vec 1,AV.vec 2]),(0,OB.vec 65 2 f.strips.length fun (i:Nat)=>cStrip (stp f i)),(1,OB.vec 46 3 f.pieces.length fun (i:Nat)=>cPiece (pc f i)),(2,OB.vec 27 1 f.columns.length fun (i:Nat)=>[aInts (col f i)])] 100) (zE hE [] [(90,.same 8),(0,.same 72),(1,.same 104),(2,.same 5000)] [] [] (An (An (An (zr (some (Src.same 8))) (zr nilP)) tv) (An (An (An (zr 26) (An (An (An (zr (iv f.length)) (zr nilN)) (An (An (zr (iv f.slack)) (zr nilN)) (An (zr (some (Src.same 72))) (An (zr (some (Src.same 104))) (An (zr (some (Src.same 5000))) tv))))) (zr true))) (An (An (zr 65) (An (zr 2) (An (o13 hpre x0 hx0 y1) (fun (i4:Nat)=>(fun (y5:i4 < 0 + f.strips.length)=>(zr (cStrip (stp f i4)))))))) (An (An (zr 46) (An (zr 3) (An (o14 hpre x0 hx0 y1) (fun (i6:Nat)=>(fun (y7:i6 < 0 + f.pieces.length)=>(zr (cPiece (pc f i6)))))))) (An (An (zr 27) (An (zr 1) (An (o15 hpre x0 hx0 y1) (fun (i8:Nat)=>(fun (y9:i8 < x0)=>(zr ([aInts (col f i8)]))))))) tv)))) (An (zr true) (zr true))))) (An (Ak 1 tv) (An (zr (AV.agg [iv f.length,iv f.slack,AV.vec 0,AV.vec 1,AV.vec 2])) (An (zr (some (OB.vec 65 2 f.strips.length fun (i:Nat)=>cStrip (stp f i)))) (An (zr (some (OB.vec 46 3 f.pieces.length fun (i:Nat)=>cPiece (pc f i)))) (An (zr (some (OB.vec 27 1 f.columns.length fun (i:Nat)=>[aInts (col f i)]))) tv)))))
theorem to31 (f:Frm) (l:List (Nat × Nat)) (hl:l.map (·.1) = [0,1,2]) (hnd:(l.map (·.2)).Nodup):Triple Try.prog 31 ((ou31 f).at l):=by
 apply wo31 (l:=l) (hl:=hl) (hnd:=hnd)
 all_goals (intro hp; obtain ⟨a1,a2,a3,a4⟩:=hp)
 case o6=>intro x hx hl; have:=a4 x; show _<=_; omega
 case o10 =>
  intro x hx hl i hi
  refine catF_idx (fun k=>[aInts (col f k)]) ?_ hi
  show [AV.sl 1 (0 + (col f x).length) _] = [aInts (col f x)]
  rw [Nat.zero_add]; rfl
 all_goals (first | omega | rfl | skip)
 all_goals (intro x hx hl; simp only [decide_eq_true_eq,decide_eq_false_iff_not] at hl)
 all_goals (first | omega | (simp only [inI]; omega))
theorem t31o (f:Frm) (id:Nat):Triple Try.prog 31 (s31o f id):=to31 f _ rfl (by simp)
theorem w49 (f:Frm) (k:Int) (m:Int)
  (o0:smallF f/\0<=k/\k < (↑(f.strips.length):Int)->0<=k)
  (o1:smallF f/\0<=k/\k < (↑(f.strips.length):Int)->k < (↑(f.strips.length):Int))
  (o2:smallF f/\0<=k/\k < (↑(f.strips.length):Int)->k.toNat < f.strips.length)
  (o3:smallF f/\0<=k/\k < (↑(f.strips.length):Int)->0<=k)
  (o4:smallF f/\0<=k/\k < (↑(f.strips.length):Int)->k < (↑(f.strips.length):Int))
  (o5:smallF f/\0<=k/\k < (↑(f.strips.length):Int)->k.toNat < f.strips.length)
  (o6:smallF f/\0<=k/\k < (↑(f.strips.length):Int)->f.length=(stockedF f k.toNat m).length)
  (o7:smallF f/\0<=k/\k < (↑(f.strips.length):Int)->f.slack=(stockedF f k.toNat m).slack)
  (o8:smallF f/\0<=k/\k < (↑(f.strips.length):Int)->f.strips.length=(stockedF f k.toNat m).strips.length)
  (o9:smallF f/\0<=k/\k < (↑(f.strips.length):Int) -> ∀ (i1:Nat),i1 < (stockedF f k.toNat m).strips.length->Decidable.rec (fun (h:¬i1=k.toNat)=>cStrip (stp f i1)) (fun (h:i1=k.toNat)=>[iv (stp f k.toNat).thick,iv m] ++ []) (instDecidableEqNat i1 k.toNat)=cStrip (stp (stockedF f k.toNat m) i1))
  (o10:smallF f/\0<=k/\k < (↑(f.strips.length):Int)->f.pieces.length=(stockedF f k.toNat m).pieces.length)
  (o11:smallF f/\0<=k/\k < (↑(f.strips.length):Int) -> ∀ (i3:Nat),i3 < (stockedF f k.toNat m).pieces.length->cPiece (pc f i3)=cPiece (pc (stockedF f k.toNat m) i3))
  (o12:smallF f/\0<=k/\k < (↑(f.strips.length):Int)->f.columns.length=(stockedF f k.toNat m).columns.length)
  (o13:smallF f/\0<=k/\k < (↑(f.strips.length):Int) -> ∀ (i5:Nat),i5 < (stockedF f k.toNat m).columns.length -> [aInts (col f i5)] = [aInts (col (stockedF f k.toNat m) i5)]) :
  Triple Try.prog 49 (s49 f k m):=by
 refine triple_of Try.func49 rfl Try.call49 T0_ok _ rfl rfl rfl rfl (Nat.le_of_ble_eq_true (by kernel_rfl)) (fun _ _ _ _ h=>h) ?_
 intro hpre C hC _ hE
 obtain ⟨P,w0,E0,av,hA,ro,df⟩:=C
 obtain ⟨rfl,rfl,rfl⟩:=hC
 refine swp_seq ?_
 refine zR [1,2,3,6] [0,8] (Ak 2 tv) ?_
 refine swp_seq ?_
 refine zC ([(1,CallSpec.eq (c49 f k m 24) [true])]) [1,2,6,7] [8,32,24,25,26] (Ak 1 (An (An (An (zr (AV.agg (cFrm f))) tv) (An (t31o (f) (24)) (An hpre.1 (Ak 1 (fun (i0:Env)=>tv))))) (Ak 2 tv))) ?_
 refine swp_seq ?_
 refine zR [1,2,6,7,8] [8,32,88,24,25,26] (Ak 3 (An (An (o0 hpre) (o1 hpre)) (An (An (o2 hpre) tv) (Ak 2 tv)))) ?_
 refine swp_seq ?_
 refine zR [1,6,7,8] [8,32,88,24,25,26] (Ak 3 tv) ?_
 refine swp_seq ?_
 refine zR [6,7] [8,32,24,25,26] (Ak 4 (An (An (o3 hpre) (o4 hpre)) (An (An (o5 hpre) tv) tv))) ?_
 refine swp_seq ?_
 refine zR [6] [8,24,25,26] (Ak 2 tv) ?_
 refine swp_ret ?_
 exact zT [24,25,26] (An (Ak 1 tv) (An (An (An (ci (o6 hpre)) (zr nilN)) (An (An (ci (o7 hpre)) (zr nilN)) (An (An (zr 2) (An (o8 hpre) (fun (i1:Nat)=>(fun (y2:i1 < (stockedF f k.toNat m).strips.length)=>(o9 hpre i1 y2))))) (An (An (zr 3) (An (o10 hpre) (fun (i3:Nat)=>(fun (y4:i3 < (stockedF f k.toNat m).pieces.length)=>(o11 hpre i3 y4))))) (An (An (zr 1) (An (o12 hpre) (fun (i5:Nat)=>(fun (y6:i5 < (stockedF f k.toNat m).columns.length)=>(o13 hpre i5 y6))))) tv))))) (An (zr true) (An (zr true) (zr true)))))
theorem stp_stocked {f:Frm} {k:Nat} (hk:k < f.strips.length) (m:Int) (j:Nat):stp (stockedF f k m) j=if j=k then { stp f k with many:=m } else stp f j:=by
 show (f.strips.set k _).getD j default=_
 rw [List.getD_eq_getElem?_getD,List.getElem?_set]
 by_cases e:k=j
 ·subst e; rw [if_pos rfl,if_pos hk,if_pos rfl]; rfl
 ·rw [if_neg e,if_neg (fun h=>e h.symm),stp,List.getD_eq_getElem?_getD]
theorem t49 (f:Frm) (k m:Int):Triple Try.prog 49 (s49 f k m):=by
 apply w49
 all_goals (rintro ⟨hp,h1,h2⟩)
 case o8=>exact List.length_set.symm
 case o9 =>
  intro i hi
  rw [stp_stocked (by omega)]
  refine rec_ei (fun h => ?_) (fun h => ?_)
  ·rw [if_neg h]
  ·rw [if_pos h]; rfl
 all_goals (first | omega | rfl | (intro i hi; rfl))
theorem w82 
  (o0:60=Frm.length exP)
  (o1:2=Frm.slack exP)
  (o2:∀ (i0:Nat),i0 < exP.strips.length->List.getD [[iv 5,iv 2],[iv 3,iv 2],[iv 18,iv 1]] i0 (TI.za ti65)=cStrip (stp exP i0))
  (o3:∀ (i2:Nat),i2 < exP.pieces.length->List.getD [[iv 20,iv 21,iv 9],[iv 30,iv 30,iv 5],[iv 40,iv 41,iv 7],[iv 12,iv 13,iv 4]] i2 (TI.za ti46)=cPiece (pc exP i2))
  (o4:∀ (i4:Nat),i4 < exP.columns.length->List.getD [[AV.sl 1 2 fun (j:Nat)=>List.getD [[iv 0],[iv 1]] j (TI.za ti3)],[AV.sl 1 2 fun (j:Nat)=>List.getD [[iv 2],[iv 3]] j (TI.za ti3)]] i4 (TI.za ti27) = [aInts (col exP i4)])
  (o5:smallF exP)
  (o6:Frm.length (stockedF exP 1 3)=Frm.length exO)
  (o7:Frm.slack (stockedF exP 1 3)=Frm.slack exO)
  (o8:∀ (i13:Nat),i13 < exO.strips.length->cStrip (stp (stockedF exP 1 3) i13)=cStrip (stp exO i13))
  (o9:∀ (i15:Nat),i15 < exO.pieces.length->cPiece (pc (stockedF exP 1 3) i15)=cPiece (pc exO i15))
  (o10:∀ (i17:Nat),i17 < exO.columns.length -> [aInts (col (stockedF exP 1 3) i17)] = [aInts (col exO i17)]) :
  Triple Try.prog 82 (s82):=by
 refine triple_of Try.func82 rfl Try.call82 T0_ok _ rfl rfl rfl rfl (Nat.le_of_ble_eq_true (by kernel_rfl)) (fun _ _ _ _ h=>h) ?_
 intro _ C hC _ hE
 obtain ⟨P,w0,E0,av,hA,ro,df⟩:=C
 obtain ⟨rfl,rfl,rfl⟩:=hC
 refine swp_seq ?_
 refine zR [0,1] [0,8] (Ak 2 tv) ?_
 refine swp_seq ?_
 refine zR [0,1] [0,8,40,112,136] (Ak 18 tv) ?_
 refine swp_seq ?_
 refine swp_ent (zE (st2:=ASt.mk [(0,AV.ptr 0 []),(1,AV.ptr 8 [])] [(0,OB.cells 26 (cFrm exP)),(8,OB.cells 26 [iv 0,iv 0,nilv,nilv,nilv])] 160) hE [40,112,136] [(0,.same 0),(8,.same 8)] [] [8] (An (An (An (zr (some (Src.same 0))) (zr nilP)) (An (An (zr (some (Src.same 8))) (zr nilP)) tv)) (An (An (An (zr 26) (An (An (An (ci (o0)) (zr nilN)) (An (An (ci (o1)) (zr nilN)) (An (An (zr 2) (An (by decide:3=exP.strips.length) (fun (i0:Nat)=>(fun (y1:i0 < exP.strips.length)=>(o2 i0 y1))))) (An (An (zr 3) (An (by decide:4=exP.pieces.length) (fun (i2:Nat)=>(fun (y3:i2 < exP.pieces.length)=>(o3 i2 y3))))) (An (An (zr 1) (An (by decide:2=exP.columns.length) (fun (i4:Nat)=>(fun (y5:i4 < exP.columns.length)=>(o4 i4 y5))))) tv))))) (zr true))) (An (An (zr (OB.cells 26 [iv 0,iv 0,nilv,nilv,nilv])) (zr true)) tv)) (An (zr true) (zr true))))) ?_
 refine zC ([(2,CallSpec.eq c82 [true,true,true])]) [0,1] [0,8] (Ak 2 (An (An (An (zr (AV.agg (cFrm exP))) (An (zr (iv 1)) (An (zr (iv 3)) tv))) (An (t49 (exP) (1) (3)) (An (An (o5) (An (by decide:Int.ofNat 0<=Int.ofNat 1) (by decide:1 < (↑(exP.strips.length):Int)))) (Ak 1 (fun (i6:Env)=>tv))))) (Ak 2 tv))) ?_
 refine swp_ret ?_
 exact zT [] (An (Ak 2 tv) (An (An (An (An (zr (iv exP.length)) (zr nilN)) (An (An (zr (iv exP.slack)) (zr nilN)) (An (An (zr 2) (An (zr exP.strips.length) (fun (i7:Nat)=>(fun (y8:i7 < exP.strips.length)=>(zr (cStrip (stp exP i7))))))) (An (An (zr 3) (An (zr exP.pieces.length) (fun (i9:Nat)=>(fun (y10:i9 < exP.pieces.length)=>(zr (cPiece (pc exP i9))))))) (An (An (zr 1) (An (zr exP.columns.length) (fun (i11:Nat)=>(fun (y12:i11 < exP.columns.length)=>(zr ([aInts (col exP i11)])))))) tv))))) (An (An (An (ci (o6)) (zr nilN)) (An (An (ci (o7)) (zr nilN)) (An (An (zr 2) (An (by decide:(stockedF exP 1 3).strips.length=exO.strips.length) (fun (i13:Nat)=>(fun (y14:i13 < exO.strips.length)=>(o8 i13 y14))))) (An (An (zr 3) (An (by decide:(stockedF exP 1 3).pieces.length=exO.pieces.length) (fun (i15:Nat)=>(fun (y16:i15 < exO.pieces.length)=>(o9 i15 y16))))) (An (An (zr 1) (An (by decide:(stockedF exP 1 3).columns.length=exO.columns.length) (fun (i17:Nat)=>(fun (y18:i17 < exO.columns.length)=>(o10 i17 y18))))) tv))))) tv)) (An (zr true) (An (zr true) (zr true)))))
theorem small_frm {f:Frm} (h:decide (f.strips.length<=64) && decide (f.pieces.length<=64) && decide (f.columns.length<=64) && f.columns.all (fun c=>decide (c.length<=64))=true):smallF f:=by
 simp only [Bool.and_eq_true,decide_eq_true_eq] at h
 refine ⟨h.1.1.1,h.1.1.2,h.1.2,fun i => ?_⟩
 by_cases hi:i < f.columns.length
 ·have:=idx_all [] h.2 hi
  exact of_decide_eq_true this
 ·have:col f i = []:=getD_ge _ _ (by omega)
  rw [this]; exact Nat.zero_le _
theorem small_exP:smallF exP:=small_frm (by decide)
theorem small_exO:smallF exO:=small_frm (by decide)
theorem sl_ext {sz n:Nat} {f g:Nat->List AV} (h:∀ j,f j=g j):AV.sl sz n f = .sl sz n g:=by rw [funext h]
theorem t82:Triple Try.prog 82 s82:=by
 apply w82
 case o2 =>
  intro i hi
  have:i=0 ∨ i=1 ∨ i=2:=by simp [exP] at hi; omega
  rcases this with rfl | rfl | rfl <;> rfl
 case o3 =>
  intro i hi
  have:i=0 ∨ i=1 ∨ i=2 ∨ i=3:=by simp [exP] at hi; omega
  rcases this with rfl | rfl | rfl | rfl <;> rfl
 case o4 =>
  intro i hi
  have:i=0 ∨ i=1:=by simp [exP] at hi; omega
  rcases this with rfl | rfl
  ·exact congrArg (fun z=>[z]) (sl_ext fun j=>by rcases j with _ | _ | j <;> rfl)
  ·exact congrArg (fun z=>[z]) (sl_ext fun j=>by rcases j with _ | _ | j <;> rfl)
 case o5=>exact small_exP
 all_goals (first | rfl | (intro i hi; rfl) | decide)
theorem t82o (f o:Frm):Triple Try.prog 82 (s82o f o):=⟨t82.1,fun h=>by obtain ⟨rfl,rfl⟩:=h; exact t82.2 trivial⟩
theorem w20 (f:Frm) (o:Frm)
  (o0:f=exP/\o=exO->smallF f)
  (o1:f=exP/\o=exO->smallF o)
  (o2:f=exP/\o=exO->smallF f)
  (o3:f=exP/\o=exO -> ∀ (i4:Nat),i4 < List.length [2,0,0]->List.getD [[iv 2],[iv 0],[iv 0]] i4 (TI.za ti3) = [iv (List.getD [2,0,0] i4 0)])
  (o4:f=exP/\o=exO->smallF o)
  (o5:f=exP/\o=exO->smallF o)
  (o6:f=exP/\o=exO->smallF f)
  (o7:f=exP/\o=exO->(bif bif bif bif bif bif bif decide (roomE f 0=0) then decide (stripsE o=0) else false then decide (refuseE f=0) else false then decide (openF o (fitsG o 0 [2,0,0])=0) else false then decide (growE o 0=0) else false then decide (openF f (gapG f 1 3)=0) else false then decide ((roomR f 0).lo=8) && (decide ((roomR f 0).hi=9) && true) else false then decide (stripsN o=4) else false)=true -> ∀ (i53:Nat),i53 < List.length [3]->List.getD [[iv 3]] i53 (TI.za ti3) = [iv (List.getD [3] i53 0)])
  (o8:f=exP/\o=exO->(bif bif bif bif bif bif bif decide (roomE f 0=0) then decide (stripsE o=0) else false then decide (refuseE f=0) else false then decide (openF o (fitsG o 0 [2,0,0])=0) else false then decide (growE o 0=0) else false then decide (openF f (gapG f 1 3)=0) else false then decide ((roomR f 0).lo=8) && (decide ((roomR f 0).hi=9) && true) else false then decide (stripsN o=4) else false)=true->(refuseL f).length<=big)
  (o9:f=exP/\o=exO->(bif bif bif bif bif bif bif bif bif bif bif decide (roomE f 0=0) then decide (stripsE o=0) else false then decide (refuseE f=0) else false then decide (openF o (fitsG o 0 [2,0,0])=0) else false then decide (growE o 0=0) else false then decide (openF f (gapG f 1 3)=0) else false then decide ((roomR f 0).lo=8) && (decide ((roomR f 0).hi=9) && true) else false then decide (stripsN o=4) else false then sameInts (refuseL f) [3] else false then decide (fitsP o 0 [2,0,0]=3) else false then decide (growN o 0=22) else false then decide ((gapR f 1 3).lo=19) && (decide ((gapR f 1 3).hi=21) && true) else false)=true) :
  Triple Try.prog 20 (sw20 f o):=by
 refine triple_of Try.func20 rfl Try.call20 T0_ok _ rfl rfl rfl rfl (Nat.le_of_ble_eq_true (by kernel_rfl)) (fun _ _ _ _ h=>h) ?_
 intro hpre C hC _ hE
 obtain ⟨P,w0,E0,av,hA,ro,df⟩:=C
 obtain ⟨rfl,rfl,rfl⟩:=hC
 refine swp_seq ?_
 refine zR [] [] (Ak 1 tv) ?_
 refine swp_seq ?_
 refine zC ([(0,CallSpec.eq (c20a f o) [])]) [1,2] [40,48] (An (Ak 1 (An (t82o (f) (o)) (An (An hpre.1 hpre.2) (Ak 1 (fun (i0:Env)=>tv))))) (Ak 7 tv)) ?_
 refine swp_seq ?_
 refine zC ([(1,CallSpec.eq (s22 f 0) [true,true])]) [1,2,3,4] [40,48,112] (Ak 1 (An (An (An (zr (AV.agg (cFrm f))) (An (zr (iv 0)) tv)) (An (t22 (f) (0)) (An (o0 hpre) (Ak 1 (fun (i1:Env)=>tv))))) (Ak 6 tv))) ?_
 refine swp_seq ?_
 refine zC ([(1,CallSpec.eq (s59 o) [true])]) [1,2,3,4,5,6] [40,48,112] (Ak 1 (An (An (An (zr (AV.agg (cFrm o))) tv) (An (t59 (o)) (An (o1 hpre) (Ak 1 (fun (i2:Env)=>tv))))) (Ak 5 tv))) ?_
 refine swp_seq ?_
 refine zC ([(1,CallSpec.eq (s42 f) [true])]) [1,2,3,4,5,6,7,8] [40,48,112] (Ak 1 (An (An (An (zr (AV.agg (cFrm f))) tv) (An (t42 (f)) (An (o2 hpre) (Ak 1 (fun (i3:Env)=>tv))))) (Ak 5 tv))) ?_
 refine swp_seq ?_
 refine zC ([(2,CallSpec.eq (c20b f o) [true,true,false])]) [1,2,3,4,5,6,7,8,9,10] [40,48,112] (Ak 2 (An (An (An (zr (AV.agg (cFrm o))) (An (zr (iv 0)) (An (An (zr 1) (An (zr 3) (fun (i4:Nat)=>(fun (y5:i4 < List.length [2,0,0])=>(o3 hpre i4 y5))))) tv))) (An (t36 (o) (0) ([2,0,0])) (An (An (o4 hpre) (by decide:List.length [2,0,0]<=64)) (Ak 1 (fun (i6:Env)=>tv))))) (Ak 5 tv))) ?_
 refine swp_seq ?_
 refine zC ([(1,CallSpec.eq (s26 o 0) [true,true])]) [1,3,4,5,6,7,8,9,10,11,12] [40,112] (Ak 1 (An (An (An (zr (AV.agg (cFrm o))) (An (zr (iv 0)) tv)) (An (t26 (o) (0)) (An (o5 hpre) (Ak 1 (fun (i7:Env)=>tv))))) (Ak 5 tv))) ?_
 refine swp_seq ?_
 refine zC ([(1,CallSpec.eq (s48 f 1 3) [true,true,true])]) [3,4,5,6,7,8,9,10,11,12,13,14] [112,408] (Ak 1 (An (An (An (zr (AV.agg (cFrm f))) (An (zr (iv 1)) (An (zr (iv 3)) tv))) (An (t48 (f) (1) (3)) (An (o6 hpre) (Ak 1 (fun (i8:Env)=>tv))))) (Ak 6 tv))) ?_
 refine swp_seq ?_
 refine zC ([(34,CallSpec.eq (c20c f o) [false,false])]) [0] [] (Ak 3 (An (fun (y9:decide (roomE f 0=0)=true)=>(An (Ak 1 tv) tv)) (An (fun (y10:decide (roomE f 0=0)=true)=>(An (An (fun (y11:decide (roomE f 0=0)=true)=>y10) (Ak 1 tv)) tv)) (An (An (fun (y12:decide (roomE f 0=0)=true)=>y12) (fun (y13:decide (roomE f 0=0)=false)=>tv)) (Ak 1 (An (fun (y14:(bif decide (roomE f 0=0) then decide (stripsE o=0) else false)=true)=>(An (Ak 1 tv) tv)) (An (fun (y15:(bif decide (roomE f 0=0) then decide (stripsE o=0) else false)=true)=>(An (An (fun (y16:(bif decide (roomE f 0=0) then decide (stripsE o=0) else false)=true)=>y15) (Ak 1 tv)) tv)) (An (An (fun (y17:(bif decide (roomE f 0=0) then decide (stripsE o=0) else false)=true)=>y17) (fun (y18:(bif decide (roomE f 0=0) then decide (stripsE o=0) else false)=false)=>tv)) (Ak 1 (An (fun (y19:(bif bif decide (roomE f 0=0) then decide (stripsE o=0) else false then decide (refuseE f=0) else false)=true)=>(An (Ak 1 tv) tv)) (An (fun (y20:(bif bif decide (roomE f 0=0) then decide (stripsE o=0) else false then decide (refuseE f=0) else false)=true)=>(An (An (fun (y21:(bif bif decide (roomE f 0=0) then decide (stripsE o=0) else false then decide (refuseE f=0) else false)=true)=>y20) (Ak 1 tv)) tv)) (An (An (fun (y22:(bif bif decide (roomE f 0=0) then decide (stripsE o=0) else false then decide (refuseE f=0) else false)=true)=>y22) (fun (y23:(bif bif decide (roomE f 0=0) then decide (stripsE o=0) else false then decide (refuseE f=0) else false)=false)=>tv)) (Ak 1 (An (fun (y24:(bif bif bif decide (roomE f 0=0) then decide (stripsE o=0) else false then decide (refuseE f=0) else false then decide (openF o (fitsG o 0 [2,0,0])=0) else false)=true)=>(An (Ak 1 tv) tv)) (An (fun (y25:(bif bif bif decide (roomE f 0=0) then decide (stripsE o=0) else false then decide (refuseE f=0) else false then decide (openF o (fitsG o 0 [2,0,0])=0) else false)=true)=>(An (An (fun (y26:(bif bif bif decide (roomE f 0=0) then decide (stripsE o=0) else false then decide (refuseE f=0) else false then decide (openF o (fitsG o 0 [2,0,0])=0) else false)=true)=>y25) (Ak 1 tv)) tv)) (An (An (fun (y27:(bif bif bif decide (roomE f 0=0) then decide (stripsE o=0) else false then decide (refuseE f=0) else false then decide (openF o (fitsG o 0 [2,0,0])=0) else false)=true)=>y27) (fun (y28:(bif bif bif decide (roomE f 0=0) then decide (stripsE o=0) else false then decide (refuseE f=0) else false then decide (openF o (fitsG o 0 [2,0,0])=0) else false)=false)=>tv)) (Ak 1 (An (fun (y29:(bif bif bif bif decide (roomE f 0=0) then decide (stripsE o=0) else false then decide (refuseE f=0) else false then decide (openF o (fitsG o 0 [2,0,0])=0) else false then decide (growE o 0=0) else false)=true)=>(An (Ak 1 tv) tv)) (An (fun (y30:(bif bif bif bif decide (roomE f 0=0) then decide (stripsE o=0) else false then decide (refuseE f=0) else false then decide (openF o (fitsG o 0 [2,0,0])=0) else false then decide (growE o 0=0) else false)=true)=>(An (An (fun (y31:(bif bif bif bif decide (roomE f 0=0) then decide (stripsE o=0) else false then decide (refuseE f=0) else false then decide (openF o (fitsG o 0 [2,0,0])=0) else false then decide (growE o 0=0) else false)=true)=>y30) (Ak 1 tv)) tv)) (An (An (fun (y32:(bif bif bif bif decide (roomE f 0=0) then decide (stripsE o=0) else false then decide (refuseE f=0) else false then decide (openF o (fitsG o 0 [2,0,0])=0) else false then decide (growE o 0=0) else false)=true)=>y32) (fun (y33:(bif bif bif bif decide (roomE f 0=0) then decide (stripsE o=0) else false then decide (refuseE f=0) else false then decide (openF o (fitsG o 0 [2,0,0])=0) else false then decide (growE o 0=0) else false)=false)=>tv)) (Ak 1 (An (fun (y34:(bif bif bif bif bif decide (roomE f 0=0) then decide (stripsE o=0) else false then decide (refuseE f=0) else false then decide (openF o (fitsG o 0 [2,0,0])=0) else false then decide (growE o 0=0) else false then decide (openF f (gapG f 1 3)=0) else false)=true)=>(An (Ak 1 tv) tv)) (An (fun (y35:(bif bif bif bif bif decide (roomE f 0=0) then decide (stripsE o=0) else false then decide (refuseE f=0) else false then decide (openF o (fitsG o 0 [2,0,0])=0) else false then decide (growE o 0=0) else false then decide (openF f (gapG f 1 3)=0) else false)=true)=>(An (Ak 2 tv) tv)) (An (fun (y36:(bif bif bif bif bif decide (roomE f 0=0) then decide (stripsE o=0) else false then decide (refuseE f=0) else false then decide (openF o (fitsG o 0 [2,0,0])=0) else false then decide (growE o 0=0) else false then decide (openF f (gapG f 1 3)=0) else false)=true)=>(An (An (fun (y37:(bif bif bif bif bif decide (roomE f 0=0) then decide (stripsE o=0) else false then decide (refuseE f=0) else false then decide (openF o (fitsG o 0 [2,0,0])=0) else false then decide (growE o 0=0) else false then decide (openF f (gapG f 1 3)=0) else false)=true)=>y36) (An (fun (y38:(bif bif bif bif bif decide (roomE f 0=0) then decide (stripsE o=0) else false then decide (refuseE f=0) else false then decide (openF o (fitsG o 0 [2,0,0])=0) else false then decide (growE o 0=0) else false then decide (openF f (gapG f 1 3)=0) else false)=true)=>y36) tv)) tv)) (An (An (fun (y39:(bif bif bif bif bif decide (roomE f 0=0) then decide (stripsE o=0) else false then decide (refuseE f=0) else false then decide (openF o (fitsG o 0 [2,0,0])=0) else false then decide (growE o 0=0) else false then decide (openF f (gapG f 1 3)=0) else false)=true)=>y39) (fun (y40:(bif bif bif bif bif decide (roomE f 0=0) then decide (stripsE o=0) else false then decide (refuseE f=0) else false then decide (openF o (fitsG o 0 [2,0,0])=0) else false then decide (growE o 0=0) else false then decide (openF f (gapG f 1 3)=0) else false)=false)=>tv)) (Ak 1 (An (fun (y41:(bif bif bif bif bif bif decide (roomE f 0=0) then decide (stripsE o=0) else false then decide (refuseE f=0) else false then decide (openF o (fitsG o 0 [2,0,0])=0) else false then decide (growE o 0=0) else false then decide (openF f (gapG f 1 3)=0) else false then decide ((roomR f 0).lo=8) && (decide ((roomR f 0).hi=9) && true) else false)=true)=>(An (Ak 1 tv) tv)) (An (fun (y42:(bif bif bif bif bif bif decide (roomE f 0=0) then decide (stripsE o=0) else false then decide (refuseE f=0) else false then decide (openF o (fitsG o 0 [2,0,0])=0) else false then decide (growE o 0=0) else false then decide (openF f (gapG f 1 3)=0) else false then decide ((roomR f 0).lo=8) && (decide ((roomR f 0).hi=9) && true) else false)=true)=>(An (An (fun (y43:(bif bif bif bif bif bif decide (roomE f 0=0) then decide (stripsE o=0) else false then decide (refuseE f=0) else false then decide (openF o (fitsG o 0 [2,0,0])=0) else false then decide (growE o 0=0) else false then decide (openF f (gapG f 1 3)=0) else false then decide ((roomR f 0).lo=8) && (decide ((roomR f 0).hi=9) && true) else false)=true)=>y42) (Ak 1 tv)) tv)) (An (An (fun (y44:(bif bif bif bif bif bif decide (roomE f 0=0) then decide (stripsE o=0) else false then decide (refuseE f=0) else false then decide (openF o (fitsG o 0 [2,0,0])=0) else false then decide (growE o 0=0) else false then decide (openF f (gapG f 1 3)=0) else false then decide ((roomR f 0).lo=8) && (decide ((roomR f 0).hi=9) && true) else false)=true)=>y44) (fun (y45:(bif bif bif bif bif bif decide (roomE f 0=0) then decide (stripsE o=0) else false then decide (refuseE f=0) else false then decide (openF o (fitsG o 0 [2,0,0])=0) else false then decide (growE o 0=0) else false then decide (openF f (gapG f 1 3)=0) else false then decide ((roomR f 0).lo=8) && (decide ((roomR f 0).hi=9) && true) else false)=false)=>tv)) (Ak 1 (An (fun (y46:(bif bif bif bif bif bif bif decide (roomE f 0=0) then decide (stripsE o=0) else false then decide (refuseE f=0) else false then decide (openF o (fitsG o 0 [2,0,0])=0) else false then decide (growE o 0=0) else false then decide (openF f (gapG f 1 3)=0) else false then decide ((roomR f 0).lo=8) && (decide ((roomR f 0).hi=9) && true) else false then decide (stripsN o=4) else false)=true)=>(An (Ak 1 tv) tv)) (An (fun (y47:(bif bif bif bif bif bif bif decide (roomE f 0=0) then decide (stripsE o=0) else false then decide (refuseE f=0) else false then decide (openF o (fitsG o 0 [2,0,0])=0) else false then decide (growE o 0=0) else false then decide (openF f (gapG f 1 3)=0) else false then decide ((roomR f 0).lo=8) && (decide ((roomR f 0).hi=9) && true) else false then decide (stripsN o=4) else false)=true)=>(An (Ak 1 tv) tv)) (An (fun (y48:(bif bif bif bif bif bif bif decide (roomE f 0=0) then decide (stripsE o=0) else false then decide (refuseE f=0) else false then decide (openF o (fitsG o 0 [2,0,0])=0) else false then decide (growE o 0=0) else false then decide (openF f (gapG f 1 3)=0) else false then decide ((roomR f 0).lo=8) && (decide ((roomR f 0).hi=9) && true) else false then decide (stripsN o=4) else false)=true)=>(An (Ak 1 (An (fun (y49:(bif bif bif bif bif bif bif decide (roomE f 0=0) then decide (stripsE o=0) else false then decide (refuseE f=0) else false then decide (openF o (fitsG o 0 [2,0,0])=0) else false then decide (growE o 0=0) else false then decide (openF f (gapG f 1 3)=0) else false then decide ((roomR f 0).lo=8) && (decide ((roomR f 0).hi=9) && true) else false then decide (stripsN o=4) else false)=true)=>y48) (An (fun (y50:(bif bif bif bif bif bif bif decide (roomE f 0=0) then decide (stripsE o=0) else false then decide (refuseE f=0) else false then decide (openF o (fitsG o 0 [2,0,0])=0) else false then decide (growE o 0=0) else false then decide (openF f (gapG f 1 3)=0) else false then decide ((roomR f 0).lo=8) && (decide ((roomR f 0).hi=9) && true) else false then decide (stripsN o=4) else false)=true)=>y48) tv))) (An (An (An (zr 1) (An (zr (refuseL f).length) (fun (i51:Nat)=>(fun (y52:i51 < (refuseL f).length)=>(zr ([iv ((refuseL f).getD i51 0)])))))) (An (An (zr 1) (An (zr 1) (fun (i53:Nat)=>(fun (y54:i53 < List.length [3])=>(o7 hpre y48 i53 y54))))) tv)) (An (t40 (refuseL f) ([3])) (An (o8 hpre y48) (Ak 1 (fun (i55:Env)=>tv))))))) (An (An (fun (y56:(bif bif bif bif bif bif bif decide (roomE f 0=0) then decide (stripsE o=0) else false then decide (refuseE f=0) else false then decide (openF o (fitsG o 0 [2,0,0])=0) else false then decide (growE o 0=0) else false then decide (openF f (gapG f 1 3)=0) else false then decide ((roomR f 0).lo=8) && (decide ((roomR f 0).hi=9) && true) else false then decide (stripsN o=4) else false)=true)=>y56) (fun (y57:(bif bif bif bif bif bif bif decide (roomE f 0=0) then decide (stripsE o=0) else false then decide (refuseE f=0) else false then decide (openF o (fitsG o 0 [2,0,0])=0) else false then decide (growE o 0=0) else false then decide (openF f (gapG f 1 3)=0) else false then decide ((roomR f 0).lo=8) && (decide ((roomR f 0).hi=9) && true) else false then decide (stripsN o=4) else false)=false)=>tv)) (Ak 1 (An (fun (y58:(bif bif bif bif bif bif bif bif decide (roomE f 0=0) then decide (stripsE o=0) else false then decide (refuseE f=0) else false then decide (openF o (fitsG o 0 [2,0,0])=0) else false then decide (growE o 0=0) else false then decide (openF f (gapG f 1 3)=0) else false then decide ((roomR f 0).lo=8) && (decide ((roomR f 0).hi=9) && true) else false then decide (stripsN o=4) else false then sameInts (refuseL f) [3] else false)=true)=>(An (Ak 1 tv) tv)) (An (fun (y59:(bif bif bif bif bif bif bif bif decide (roomE f 0=0) then decide (stripsE o=0) else false then decide (refuseE f=0) else false then decide (openF o (fitsG o 0 [2,0,0])=0) else false then decide (growE o 0=0) else false then decide (openF f (gapG f 1 3)=0) else false then decide ((roomR f 0).lo=8) && (decide ((roomR f 0).hi=9) && true) else false then decide (stripsN o=4) else false then sameInts (refuseL f) [3] else false)=true)=>(An (An (fun (y60:(bif bif bif bif bif bif bif bif decide (roomE f 0=0) then decide (stripsE o=0) else false then decide (refuseE f=0) else false then decide (openF o (fitsG o 0 [2,0,0])=0) else false then decide (growE o 0=0) else false then decide (openF f (gapG f 1 3)=0) else false then decide ((roomR f 0).lo=8) && (decide ((roomR f 0).hi=9) && true) else false then decide (stripsN o=4) else false then sameInts (refuseL f) [3] else false)=true)=>y59) (Ak 1 tv)) tv)) (An (An (fun (y61:(bif bif bif bif bif bif bif bif decide (roomE f 0=0) then decide (stripsE o=0) else false then decide (refuseE f=0) else false then decide (openF o (fitsG o 0 [2,0,0])=0) else false then decide (growE o 0=0) else false then decide (openF f (gapG f 1 3)=0) else false then decide ((roomR f 0).lo=8) && (decide ((roomR f 0).hi=9) && true) else false then decide (stripsN o=4) else false then sameInts (refuseL f) [3] else false)=true)=>y61) (fun (y62:(bif bif bif bif bif bif bif bif decide (roomE f 0=0) then decide (stripsE o=0) else false then decide (refuseE f=0) else false then decide (openF o (fitsG o 0 [2,0,0])=0) else false then decide (growE o 0=0) else false then decide (openF f (gapG f 1 3)=0) else false then decide ((roomR f 0).lo=8) && (decide ((roomR f 0).hi=9) && true) else false then decide (stripsN o=4) else false then sameInts (refuseL f) [3] else false)=false)=>tv)) (Ak 1 (An (fun (y63:(bif bif bif bif bif bif bif bif bif decide (roomE f 0=0) then decide (stripsE o=0) else false then decide (refuseE f=0) else false then decide (openF o (fitsG o 0 [2,0,0])=0) else false then decide (growE o 0=0) else false then decide (openF f (gapG f 1 3)=0) else false then decide ((roomR f 0).lo=8) && (decide ((roomR f 0).hi=9) && true) else false then decide (stripsN o=4) else false then sameInts (refuseL f) [3] else false then decide (fitsP o 0 [2,0,0]=3) else false)=true)=>(An (Ak 1 tv) tv)) (An (fun (y64:(bif bif bif bif bif bif bif bif bif decide (roomE f 0=0) then decide (stripsE o=0) else false then decide (refuseE f=0) else false then decide (openF o (fitsG o 0 [2,0,0])=0) else false then decide (growE o 0=0) else false then decide (openF f (gapG f 1 3)=0) else false then decide ((roomR f 0).lo=8) && (decide ((roomR f 0).hi=9) && true) else false then decide (stripsN o=4) else false then sameInts (refuseL f) [3] else false then decide (fitsP o 0 [2,0,0]=3) else false)=true)=>(An (An (fun (y65:(bif bif bif bif bif bif bif bif bif decide (roomE f 0=0) then decide (stripsE o=0) else false then decide (refuseE f=0) else false then decide (openF o (fitsG o 0 [2,0,0])=0) else false then decide (growE o 0=0) else false then decide (openF f (gapG f 1 3)=0) else false then decide ((roomR f 0).lo=8) && (decide ((roomR f 0).hi=9) && true) else false then decide (stripsN o=4) else false then sameInts (refuseL f) [3] else false then decide (fitsP o 0 [2,0,0]=3) else false)=true)=>y64) (Ak 1 tv)) tv)) (An (An (fun (y66:(bif bif bif bif bif bif bif bif bif decide (roomE f 0=0) then decide (stripsE o=0) else false then decide (refuseE f=0) else false then decide (openF o (fitsG o 0 [2,0,0])=0) else false then decide (growE o 0=0) else false then decide (openF f (gapG f 1 3)=0) else false then decide ((roomR f 0).lo=8) && (decide ((roomR f 0).hi=9) && true) else false then decide (stripsN o=4) else false then sameInts (refuseL f) [3] else false then decide (fitsP o 0 [2,0,0]=3) else false)=true)=>y66) (fun (y67:(bif bif bif bif bif bif bif bif bif decide (roomE f 0=0) then decide (stripsE o=0) else false then decide (refuseE f=0) else false then decide (openF o (fitsG o 0 [2,0,0])=0) else false then decide (growE o 0=0) else false then decide (openF f (gapG f 1 3)=0) else false then decide ((roomR f 0).lo=8) && (decide ((roomR f 0).hi=9) && true) else false then decide (stripsN o=4) else false then sameInts (refuseL f) [3] else false then decide (fitsP o 0 [2,0,0]=3) else false)=false)=>tv)) (Ak 1 (An (fun (y68:(bif bif bif bif bif bif bif bif bif bif decide (roomE f 0=0) then decide (stripsE o=0) else false then decide (refuseE f=0) else false then decide (openF o (fitsG o 0 [2,0,0])=0) else false then decide (growE o 0=0) else false then decide (openF f (gapG f 1 3)=0) else false then decide ((roomR f 0).lo=8) && (decide ((roomR f 0).hi=9) && true) else false then decide (stripsN o=4) else false then sameInts (refuseL f) [3] else false then decide (fitsP o 0 [2,0,0]=3) else false then decide (growN o 0=22) else false)=true)=>(An (Ak 1 tv) tv)) (An (fun (y69:(bif bif bif bif bif bif bif bif bif bif decide (roomE f 0=0) then decide (stripsE o=0) else false then decide (refuseE f=0) else false then decide (openF o (fitsG o 0 [2,0,0])=0) else false then decide (growE o 0=0) else false then decide (openF f (gapG f 1 3)=0) else false then decide ((roomR f 0).lo=8) && (decide ((roomR f 0).hi=9) && true) else false then decide (stripsN o=4) else false then sameInts (refuseL f) [3] else false then decide (fitsP o 0 [2,0,0]=3) else false then decide (growN o 0=22) else false)=true)=>(An (Ak 2 tv) tv)) (An (fun (y70:(bif bif bif bif bif bif bif bif bif bif decide (roomE f 0=0) then decide (stripsE o=0) else false then decide (refuseE f=0) else false then decide (openF o (fitsG o 0 [2,0,0])=0) else false then decide (growE o 0=0) else false then decide (openF f (gapG f 1 3)=0) else false then decide ((roomR f 0).lo=8) && (decide ((roomR f 0).hi=9) && true) else false then decide (stripsN o=4) else false then sameInts (refuseL f) [3] else false then decide (fitsP o 0 [2,0,0]=3) else false then decide (growN o 0=22) else false)=true)=>(An (An (fun (y71:(bif bif bif bif bif bif bif bif bif bif decide (roomE f 0=0) then decide (stripsE o=0) else false then decide (refuseE f=0) else false then decide (openF o (fitsG o 0 [2,0,0])=0) else false then decide (growE o 0=0) else false then decide (openF f (gapG f 1 3)=0) else false then decide ((roomR f 0).lo=8) && (decide ((roomR f 0).hi=9) && true) else false then decide (stripsN o=4) else false then sameInts (refuseL f) [3] else false then decide (fitsP o 0 [2,0,0]=3) else false then decide (growN o 0=22) else false)=true)=>y70) (An (fun (y72:(bif bif bif bif bif bif bif bif bif bif decide (roomE f 0=0) then decide (stripsE o=0) else false then decide (refuseE f=0) else false then decide (openF o (fitsG o 0 [2,0,0])=0) else false then decide (growE o 0=0) else false then decide (openF f (gapG f 1 3)=0) else false then decide ((roomR f 0).lo=8) && (decide ((roomR f 0).hi=9) && true) else false then decide (stripsN o=4) else false then sameInts (refuseL f) [3] else false then decide (fitsP o 0 [2,0,0]=3) else false then decide (growN o 0=22) else false)=true)=>y70) tv)) tv)) (An (An (fun (y73:(bif bif bif bif bif bif bif bif bif bif decide (roomE f 0=0) then decide (stripsE o=0) else false then decide (refuseE f=0) else false then decide (openF o (fitsG o 0 [2,0,0])=0) else false then decide (growE o 0=0) else false then decide (openF f (gapG f 1 3)=0) else false then decide ((roomR f 0).lo=8) && (decide ((roomR f 0).hi=9) && true) else false then decide (stripsN o=4) else false then sameInts (refuseL f) [3] else false then decide (fitsP o 0 [2,0,0]=3) else false then decide (growN o 0=22) else false)=true)=>y73) (fun (y74:(bif bif bif bif bif bif bif bif bif bif decide (roomE f 0=0) then decide (stripsE o=0) else false then decide (refuseE f=0) else false then decide (openF o (fitsG o 0 [2,0,0])=0) else false then decide (growE o 0=0) else false then decide (openF f (gapG f 1 3)=0) else false then decide ((roomR f 0).lo=8) && (decide ((roomR f 0).hi=9) && true) else false then decide (stripsN o=4) else false then sameInts (refuseL f) [3] else false then decide (fitsP o 0 [2,0,0]=3) else false then decide (growN o 0=22) else false)=false)=>tv)) (Ak 1 tv)))))))))))))))))))))))))))))))))))))))))))))))) ?_
 refine swp_ret ?_
 exact zT [] (An (Ak 1 tv) (An (An (cb (o9 hpre)) (zr nilN)) (An (zr true) (An (zr true) (zr true)))))
set_option maxRecDepth 4000
theorem x_room:roomR exP 0=⟨8,9⟩/\roomE exP 0=0:=by decide +kernel
theorem x_strips:stripsN exO=4/\stripsE exO=0:=by decide +kernel
theorem x_ref:refuseL exP = [3]/\refuseE exP=0:=by decide +kernel
theorem x_fits:fitsP exO 0 [2,0,0]=3/\openF exO (fitsG exO 0 [2,0,0])=0:=by decide +kernel
theorem x_grow:growN exO 0=22/\growE exO 0=0:=by decide +kernel
theorem x_gap:gapR exP 1 3=⟨19,21⟩/\openF exP (gapG exP 1 3)=0:=by decide +kernel
theorem tw20 (f o:Frm):Triple Try.prog 20 (sw20 f o):=by
 apply w20
 all_goals (rintro ⟨rfl,rfl⟩)
 case o3 =>
  intro i hi
  have:i=0 ∨ i=1 ∨ i=2:=by simp at hi; omega
  rcases this with rfl | rfl | rfl <;> rfl
 case o7 =>
  intro _ i hi
  have:i=0:=by simpa using hi
  subst this; rfl
 case o8=>intro _; decide
 case o9 =>
  obtain ⟨a1,a2⟩:=x_room
  obtain ⟨b1,b2⟩:=x_strips
  obtain ⟨c1,c2⟩:=x_ref
  obtain ⟨d1,d2⟩:=x_fits
  obtain ⟨e1,e2⟩:=x_grow
  obtain ⟨g1,g2⟩:=x_gap
  rw [a1,a2,b1,b2,c1,c2,d1,d2,e1,e2,g1,g2]; (repeat intro _); rfl
 all_goals (first | exact small_exP | exact small_exO | skip)
theorem t20:Triple Try.prog 20 s20:=⟨(tw20 exP exO).1,fun _=>(tw20 exP exO).2 ⟨rfl,rfl⟩⟩
end Go.Ab
namespace Go.Sh
open Go.Ab
variable {f:Frm}
def okLay (l:List (List Int)):Prop:=l.length<=3 /\ ∀ i,(l.getD i []).length<=3 /\ ∀ q,0<=(l.getD i []).getD q 0/\(l.getD i []).getD q 0<=4
theorem sum_sumS (s:List Int):∀ k,k<=s.length->sumI (s.take k)=sumTo s k:=by
 intro k
 induction k with
 | zero=>intro _; rfl
 | succ k ih=>intro h; rw [sumI_take _ (by omega),ih (by omega),sumTo_succ]
theorem sumI_S (s:List Int):sumI s=sumS s:=by
 have:=sum_sumS s s.length (Nat.le_refl _)
 rw [List.take_of_length_le (Nat.le_refl _)] at this
 exact this
theorem sumTo_bound {s:List Int} (h:∀ q,0<=s.getD q 0/\s.getD q 0<=4):∀ k:Nat,0<=sumTo s k/\sumTo s k<=4 * k:=by
 intro k
 induction k with
 | zero=>exact ⟨Int.le_refl _,Int.le_refl _⟩
 | succ k ih=>rw [sumTo_succ]; have:=h k; omega
theorem many_take (l:List (List Int)) {k:Nat} (h:k < l.length):manyL (l.take (k + 1))=manyL (l.take k) + sumI (l.getD k []):=by
 rw [take_succ _ [] h,manyL_append,sumI_S]
 show _ + (sumS _ + 0)=_
 omega
theorem many_bound {l:List (List Int)} (h:okLay l):∀ k,k<=l.length->0<=manyL (l.take k)/\manyL (l.take k)<=12 * k:=by
 intro k
 induction k with
 | zero=>intro _; exact ⟨Int.le_refl _,Int.le_refl _⟩
 | succ k ih =>
  intro hk
  have h1:=ih (by omega)
  rw [many_take _ (by omega),sumI_S]
  have h2:=sumTo_bound (h.2 k).2 (l.getD k []).length
  have h3:=(h.2 k).1
  unfold sumS
  omega
end Go.Sh
namespace Go.Sh
open Go.Ab
variable {f:Frm}
end Go.Sh
namespace Go.Sh
end Go.Sh
namespace Go.Ab
open Go Go.RowKit Go.Proofs Go.Sh Go.En
def s107 (f:Frm):CallSpec:={ args:=[vFrm f],res:=aInts (stockTo f f.strips.length),pre:=Sound f }
def h107 (f:Frm):Hint:={ X:=Nat,M:=fun n=>[(3,.vec 5000),(4,iv n)],H:=fun n=>[(5000,.vec 3 1 n (fun i=>[iv ((stockTo f n).getD i 0)]))],I:=fun n=>n<=f.strips.length,mu:=fun n=>f.strips.length - n,x0:=(0:Nat),nx:=fun n=>n + 1 }
abbrev hC (f:Frm) (c:Int):Span:=highP f (col f c.toNat)
def s61 (l:List (List Int)):CallSpec:={ args:=[aIntss l],res:=iv (manyL l),pre:=okLay l }
def h61 (l:List (List Int)):Hint:={ X:=Nat,M:=fun i=>[(3,iv (manyL (l.take i))),(4,iv i)],I:=fun i=>i<=l.length,mu:=fun i=>l.length - i,x0:=(0:Nat),nx:=fun i=>i + 1 }
def s79 (a:List (List Int)):CallSpec:={ args:=[aIntss a,aIntss a],res:=bv true,pre:=a.length<=64 /\ ∀ i,(a.getD i []).length<=64 }
def h79 (a:List (List Int)):Hint:={ X:=Nat,M:=fun i=>[(5,iv i)],I:=fun i=>i<=a.length,mu:=fun i=>a.length - i,x0:=(0:Nat),nx:=fun i=>i + 1 }
def s39 (f:Frm):CallSpec:={ args:=[vFrm f,vFrm f],res:=bv true,pre:=smallF f }
def h39a (f:Frm):Hint:={ X:=Nat,M:=fun i=>[(5,iv i)],I:=fun i=>i<=f.strips.length,mu:=fun i=>f.strips.length - i,x0:=(0:Nat),nx:=fun i=>i + 1 }
def h39b (f:Frm):Hint:={ X:=Nat,M:=fun i=>[(6,iv i)],I:=fun i=>i<=f.pieces.length,mu:=fun i=>f.pieces.length - i,x0:=(0:Nat),nx:=fun i=>i + 1 }
end Go.Ab
namespace Go.Ab
open Go Go.RowKit Go.Proofs Go.Sh Go.En
theorem w107 (f:Frm)
  (o0:Sound f->0=(↑0:Int))
  (o1:Sound f->0<=List.length (Frm.strips f))
  (o2:Sound f -> ∀ (x0:Nat),x0<=f.strips.length->decide ((x0:Int) < (↑(f.strips.length):Int))=true->0<=(x0:Int))
  (o3:Sound f -> ∀ (x0:Nat),x0<=f.strips.length->decide ((x0:Int) < (↑(f.strips.length):Int))=true->(x0:Int) < (↑(f.strips.length):Int))
  (o4:Sound f -> ∀ (x0:Nat),x0<=f.strips.length->decide ((x0:Int) < (↑(f.strips.length):Int))=true->x0 + 1<=65536)
  (o5:Sound f -> ∀ (x0:Nat),x0<=f.strips.length->decide ((x0:Int) < (↑(f.strips.length):Int))=true->inI ((x0:Int) + 1))
  (o6:Sound f -> ∀ (x0:Nat),x0<=f.strips.length->decide ((x0:Int) < (↑(f.strips.length):Int))=true->(x0:Int) + 1=(↑(x0 + 1):Int))
  (o7:Sound f -> ∀ (x0:Nat),x0<=f.strips.length->decide ((x0:Int) < (↑(f.strips.length):Int))=true -> ∀ (i2:Nat),i2 < x0 + 1->catF x0 (fun (i:Nat)=>[iv ((stockTo f x0).getD i 0)]) (fun (j:Nat)=>List.getD [[iv (stp f x0).many]] j (TI.za ti3)) i2 = [iv ((stockTo f (x0 + 1)).getD i2 0)])
  (o8:Sound f -> ∀ (x0:Nat),x0<=f.strips.length->decide ((x0:Int) < (↑(f.strips.length):Int))=true->x0 + 1<=f.strips.length)
  (o9:Sound f -> ∀ (x0:Nat),x0<=f.strips.length->decide ((x0:Int) < (↑(f.strips.length):Int))=true->f.strips.length - (x0 + 1) < f.strips.length - x0)
  (o10:Sound f -> ∀ (x0:Nat),x0<=f.strips.length->decide ((x0:Int) < (↑(f.strips.length):Int))=false->x0=(stockTo f f.strips.length).length)
  (o11:Sound f -> ∀ (x0:Nat),x0<=f.strips.length->decide ((x0:Int) < (↑(f.strips.length):Int))=false -> ∀ (i4:Nat),i4 < (stockTo f f.strips.length).length -> [iv ((stockTo f x0).getD i4 0)] = [iv ((stockTo f f.strips.length).getD i4 0)]) :
  Triple Try.prog 107 (s107 f):=by
 refine triple_of Try.func107 rfl Try.call107 T0_ok _ rfl rfl rfl rfl (Nat.le_of_ble_eq_true (by kernel_rfl)) (fun _ _ _ _ h=>h) ?_
 intro hpre C hC _ hE
 obtain ⟨P,w0,E0,av,hA,ro,df⟩:=C
 obtain ⟨rfl,rfl,rfl⟩:=hC
 refine swp_seq ?_
 refine zR [1] [0] (Ak 2 tv) ?_
 refine swp_seq ?_
 refine zR [1,3] [0] (Ak 1 tv) ?_
 refine swp_seq ?_
 refine swp_seq ?_
 refine zR [1,3,4] [0] (Ak 1 tv) ?_
 refine swp_block ?_
 refine zL (Hint.ann (h107 f) [(1,AV.ptr 0 [])] [(0,OB.cells 26 (cFrm f))] 10032) (zE hE [] [(0,.same 0),(5000,.nil)] [] [0] (An (An (An (zr (some (Src.same 0))) (zr nilP)) (An (zr (some Src.nil)) (An (An (ci (o0 hpre)) (zr nilN)) tv))) (An (An (An (zr (OB.cells 26 (cFrm f))) (zr true)) (An (zr 0) tv)) (An (zr true) (zr true))))) (o1 hpre) (fun (x0:Nat) hx0 => ?_)
 refine swp_seq ?_
 refine swp_seq ?_
 refine zR [1,3,4,9] [0,5000] (Ak 5 tv) ?_
 refine zI (decide ((x0:Int) < (↑(f.strips.length):Int))) (fun y1 => ?_) (fun y1 => ?_)
 ·refine swp_skip ?_
  refine swp_seq ?_
  refine swp_block ?_
  refine zR [1,3,4] [0,10136] (Ak 4 (An (An (o2 hpre x0 hx0 y1) (o3 hpre x0 hx0 y1)) (Ak 3 (An (o4 hpre x0 hx0 y1) (Ak 1 tv))))) ?_
  refine zR [1,3,4] [0,10136] (Ak 1 (An (o5 hpre x0 hx0 y1) (Ak 1 tv))) ?_
  exact zn (zE hE [] [(0,.same 0),(5000,.same 10136)] [] [0] (An (An (An (zr (some (Src.same 0))) (zr nilP)) (An (zr (some (Src.same 10136))) (An (An (ci (o6 hpre x0 hx0 y1)) (zr nilN)) tv))) (An (An (An (zr (OB.cells 26 (cFrm f))) (zr true)) (An (An (zr 3) (An (zr 1) (An (zr (x0 + 1)) (fun (i2:Nat)=>(fun (y3:i2 < x0 + 1)=>(o7 hpre x0 hx0 y1 i2 y3)))))) tv)) (An (zr true) (zr true))))) (o8 hpre x0 hx0 y1) (o9 hpre x0 hx0 y1)
 ·refine swp_exit ?_
  refine swp_seq ?_
  refine zR [2] [5000] (Ak 2 tv) ?_
  refine swp_ret ?_
  exact zT [5000] (An (Ak 1 tv) (An (An (zr 1) (An (o10 hpre x0 hx0 y1) (fun (i4:Nat)=>(fun (y5:i4 < (stockTo f f.strips.length).length)=>(o11 hpre x0 hx0 y1 i4 y5))))) (An (zr true) (An (zr true) (zr true)))))
theorem t107 (f:Frm):Triple Try.prog 107 (s107 f):=by
 apply w107
 all_goals (intro hs; have hl:=hs.strips)
 case o0=>rfl
 case o1=>omega
 all_goals (intro x hx h; simp only [decide_eq_true_eq,decide_eq_false_iff_not] at h)
 case o7=>intro i hi; rw [stock_succ]; exact catF_one _ _ 0 (fun z=>[iv z]) (stock_len _ _).symm (fun _ _=>rfl) rfl (by rw [stock_len]; exact hi)
 case o10=>rw [stock_len]; omega
 case o11=>intro i hi; rw [show x=f.strips.length by omega]
 all_goals (first | omega | (simp only [inI]; omega))
theorem chk_bad {f:Frm} (h:(!decide (checkF f=0))=true):okFrm f=false:=by
 simp only [Bool.not_eq_true',decide_eq_false_iff_not] at h
 cases e:okFrm f with
 | false=>rfl
 | true=>exact absurd (check_good e) h
theorem chk_ok {f:Frm} (h:(!decide (checkF f=0))=false):okFrm f=true:=by
 simp only [Bool.not_eq_false',decide_eq_true_eq] at h
 exact check_zero.1 h
theorem w61 (l:List (List Int))
  (o0:okLay l->0=manyL (List.take 0 l))
  (o1:okLay l->0=(↑0:Int))
  (o2:okLay l->0<=List.length l)
  (o3:okLay l -> ∀ (x0:Nat),x0<=l.length->decide ((x0:Int) < (↑(l.length):Int))=true->0<=(x0:Int))
  (o4:okLay l -> ∀ (x0:Nat),x0<=l.length->decide ((x0:Int) < (↑(l.length):Int))=true->(x0:Int) < (↑(l.length):Int))
  (o5:okLay l -> ∀ (x0:Nat),x0<=l.length->decide ((x0:Int) < (↑(l.length):Int))=true->(l.getD x0 []).length<=big)
  (o6:okLay l -> ∀ (x0:Nat),x0<=l.length->decide ((x0:Int) < (↑(l.length):Int))=true -> ∀ (i2:Nat),i2<=(l.getD x0 []).length->inI (sumI (List.take i2 (l.getD x0 []))))
  (o7:okLay l -> ∀ (x0:Nat),x0<=l.length->decide ((x0:Int) < (↑(l.length):Int))=true->inI (manyL (List.take x0 l) + sumI (l.getD x0 [])))
  (o8:okLay l -> ∀ (x0:Nat),x0<=l.length->decide ((x0:Int) < (↑(l.length):Int))=true->inI ((x0:Int) + 1))
  (o9:okLay l -> ∀ (x0:Nat),x0<=l.length->decide ((x0:Int) < (↑(l.length):Int))=true->manyL (List.take x0 l) + sumI (l.getD x0 [])=manyL (List.take (x0 + 1) l))
  (o10:okLay l -> ∀ (x0:Nat),x0<=l.length->decide ((x0:Int) < (↑(l.length):Int))=true->(x0:Int) + 1=(↑(x0 + 1):Int))
  (o11:okLay l -> ∀ (x0:Nat),x0<=l.length->decide ((x0:Int) < (↑(l.length):Int))=true->x0 + 1<=l.length)
  (o12:okLay l -> ∀ (x0:Nat),x0<=l.length->decide ((x0:Int) < (↑(l.length):Int))=true->l.length - (x0 + 1) < l.length - x0)
  (o13:okLay l -> ∀ (x0:Nat),x0<=l.length->decide ((x0:Int) < (↑(l.length):Int))=false->manyL (List.take x0 l)=manyL l) :
  Triple Try.prog 61 (s61 l):=by
 refine triple_of Try.func61 rfl Try.call61 T0_ok _ rfl rfl rfl rfl (Nat.le_of_ble_eq_true (by kernel_rfl)) (fun _ _ _ _ h=>h) ?_
 intro hpre C hC _ hE
 obtain ⟨P,w0,E0,av,hA,ro,df⟩:=C
 obtain ⟨rfl,rfl,rfl⟩:=hC
 refine swp_seq ?_
 refine zR [0] [] (Ak 1 tv) ?_
 refine swp_seq ?_
 refine zR [0,3] [] (Ak 1 tv) ?_
 refine swp_seq ?_
 refine swp_seq ?_
 refine zR [0,3,4] [] (Ak 1 tv) ?_
 refine swp_block ?_
 refine zL (Hint.ann (h61 l) [(0,aIntss l)] [] 10024) (zE hE [] [] [0] [] (An (An (An (zr (aIntss l)) (zr true)) (An (An (ci (o0 hpre)) (zr nilN)) (An (An (ci (o1 hpre)) (zr nilN)) tv))) (Ak 1 (An (zr true) (zr true))))) (o2 hpre) (fun (x0:Nat) hx0 => ?_)
 refine swp_seq ?_
 refine swp_seq ?_
 refine zR [0,3,4,8] [] (Ak 4 tv) ?_
 refine zI (decide ((x0:Int) < (↑(l.length):Int))) (fun y1 => ?_) (fun y1 => ?_)
 ·refine swp_skip ?_
  refine swp_seq ?_
  refine swp_block ?_
  refine zC ([(5,CallSpec.eq (s113 (l.getD x0 [])) [true])]) [0,3,4] [] (Ak 3 (An (An (o3 hpre x0 hx0 y1) (o4 hpre x0 hx0 y1)) (Ak 1 (An (An (An (zr (aInts (l.getD x0 []))) tv) (An (t113 (l.getD x0 [])) (An (An (o5 hpre x0 hx0 y1) (fun (i2:Nat)=>(fun (y3:i2<=(l.getD x0 []).length)=>(o6 hpre x0 hx0 y1 i2 y3)))) (Ak 1 (fun (i4:Env)=>tv))))) (An (o7 hpre x0 hx0 y1) (Ak 1 tv)))))) ?_
  refine zR [0,3,4] [] (Ak 1 (An (o8 hpre x0 hx0 y1) (Ak 1 tv))) ?_
  exact zn (zE hE [] [] [0] [] (An (An (An (zr (aIntss l)) (zr true)) (An (An (ci (o9 hpre x0 hx0 y1)) (zr nilN)) (An (An (ci (o10 hpre x0 hx0 y1)) (zr nilN)) tv))) (Ak 1 (An (zr true) (zr true))))) (o11 hpre x0 hx0 y1) (o12 hpre x0 hx0 y1)
 ·refine swp_exit ?_
  refine swp_seq ?_
  refine zR [2] [] (Ak 2 tv) ?_
  refine swp_ret ?_
  exact zT [] (An (Ak 1 tv) (An (An (ci (o13 hpre x0 hx0 y1)) (zr nilN)) (An (zr true) (An (zr true) (zr true)))))
theorem t61 (l:List (List Int)):Triple Try.prog 61 (s61 l):=by
 apply w61
 all_goals (intro hl; have hlen:=hl.1)
 case o0 | o1=>rfl
 case o2=>omega
 all_goals (intro x hx h; simp only [decide_eq_true_eq,decide_eq_false_iff_not] at h)
 case o13=>rw [List.take_of_length_le (by omega)]
 all_goals (have h2:=hl.2 x)
 case o5=>have:=h2.1; simp only [big]; omega
 case o6=>intro k hk; rw [sum_sumS _ _ hk]; have:=sumTo_bound h2.2 k; simp only [inI]; omega
 case o9=>exact (many_take l (by omega)).symm
 case o7=>have h3:=many_bound hl (x + 1) (by omega); rw [many_take l (by omega)] at h3; simp only [inI]; omega
 all_goals (first | omega | (simp only [inI]; omega))
theorem w79 (a:List (List Int))
  (o0:(a.length<=64 /\ ∀ (i:Nat),(a.getD i []).length<=64)->(!decide ((↑(a.length):Int)=(↑(a.length):Int)))=true->false=true)
  (o1:(a.length<=64 /\ ∀ (i:Nat),(a.getD i []).length<=64)->(!decide ((↑(a.length):Int)=(↑(a.length):Int)))=false->0=(↑0:Int))
  (o2:(a.length<=64 /\ ∀ (i:Nat),(a.getD i []).length<=64)->(!decide ((↑(a.length):Int)=(↑(a.length):Int)))=false->0<=a.length)
  (o3:(a.length<=64 /\ ∀ (i:Nat),(a.getD i []).length<=64)->(!decide ((↑(a.length):Int)=(↑(a.length):Int)))=false -> ∀ (x1:Nat),x1<=a.length->decide ((x1:Int) < (↑(a.length):Int))=true->0<=(x1:Int))
  (o4:(a.length<=64 /\ ∀ (i:Nat),(a.getD i []).length<=64)->(!decide ((↑(a.length):Int)=(↑(a.length):Int)))=false -> ∀ (x1:Nat),x1<=a.length->decide ((x1:Int) < (↑(a.length):Int))=true->(x1:Int) < (↑(a.length):Int))
  (o5:(a.length<=64 /\ ∀ (i:Nat),(a.getD i []).length<=64)->(!decide ((↑(a.length):Int)=(↑(a.length):Int)))=false -> ∀ (x1:Nat),x1<=a.length->decide ((x1:Int) < (↑(a.length):Int))=true->0<=(x1:Int))
  (o6:(a.length<=64 /\ ∀ (i:Nat),(a.getD i []).length<=64)->(!decide ((↑(a.length):Int)=(↑(a.length):Int)))=false -> ∀ (x1:Nat),x1<=a.length->decide ((x1:Int) < (↑(a.length):Int))=true->(x1:Int) < (↑(a.length):Int))
  (o7:(a.length<=64 /\ ∀ (i:Nat),(a.getD i []).length<=64)->(!decide ((↑(a.length):Int)=(↑(a.length):Int)))=false -> ∀ (x1:Nat),x1<=a.length->decide ((x1:Int) < (↑(a.length):Int))=true->(a.getD x1 []).length<=big)
  (o8:(a.length<=64 /\ ∀ (i:Nat),(a.getD i []).length<=64)->(!decide ((↑(a.length):Int)=(↑(a.length):Int)))=false -> ∀ (x1:Nat),x1<=a.length->decide ((x1:Int) < (↑(a.length):Int))=true->(!sameInts (a.getD x1 []) (a.getD x1 []))=true->false=true)
  (o9:(a.length<=64 /\ ∀ (i:Nat),(a.getD i []).length<=64)->(!decide ((↑(a.length):Int)=(↑(a.length):Int)))=false -> ∀ (x1:Nat),x1<=a.length->decide ((x1:Int) < (↑(a.length):Int))=true->(!sameInts (a.getD x1 []) (a.getD x1 []))=false->inI ((x1:Int) + 1))
  (o10:(a.length<=64 /\ ∀ (i:Nat),(a.getD i []).length<=64)->(!decide ((↑(a.length):Int)=(↑(a.length):Int)))=false -> ∀ (x1:Nat),x1<=a.length->decide ((x1:Int) < (↑(a.length):Int))=true->(!sameInts (a.getD x1 []) (a.getD x1 []))=false->(x1:Int) + 1=(↑(x1 + 1):Int))
  (o11:(a.length<=64 /\ ∀ (i:Nat),(a.getD i []).length<=64)->(!decide ((↑(a.length):Int)=(↑(a.length):Int)))=false -> ∀ (x1:Nat),x1<=a.length->decide ((x1:Int) < (↑(a.length):Int))=true->(!sameInts (a.getD x1 []) (a.getD x1 []))=false->x1 + 1<=a.length)
  (o12:(a.length<=64 /\ ∀ (i:Nat),(a.getD i []).length<=64)->(!decide ((↑(a.length):Int)=(↑(a.length):Int)))=false -> ∀ (x1:Nat),x1<=a.length->decide ((x1:Int) < (↑(a.length):Int))=true->(!sameInts (a.getD x1 []) (a.getD x1 []))=false->a.length - (x1 + 1) < a.length - x1) :
  Triple Try.prog 79 (s79 a):=by
 refine triple_of Try.func79 rfl Try.call79 T0_ok _ rfl rfl rfl rfl (Nat.le_of_ble_eq_true (by kernel_rfl)) (fun _ _ _ _ h=>h) ?_
 intro hpre C hC _ hE
 obtain ⟨P,w0,E0,av,hA,ro,df⟩:=C
 obtain ⟨rfl,rfl,rfl⟩:=hC
 refine swp_seq ?_
 refine zR [0,1] [] (Ak 1 tv) ?_
 refine swp_seq ?_
 refine swp_seq ?_
 refine zR [0,1,10] [] (Ak 5 tv) ?_
 refine zI (!decide ((↑(a.length):Int)=(↑(a.length):Int))) (fun y0 => ?_) (fun y0 => ?_)
 ·refine swp_seq ?_
  refine zR [4] [] (Ak 1 tv) ?_
  refine swp_ret ?_
  exact zT [] (An (Ak 1 tv) (An (An (cb (o0 hpre y0)) (zr nilN)) (An (zr true) (An (zr true) (zr true)))))
 ·refine swp_skip ?_
  refine swp_seq ?_
  refine swp_seq ?_
  refine zR [0,1,5] [] (Ak 1 tv) ?_
  refine swp_block ?_
  refine zL (Hint.ann (h79 a) [(0,aIntss a),(1,aIntss a)] [] 10056) (zE hE [] [] [0,1] [] (An (An (An (zr (aIntss a)) (zr true)) (An (An (zr (aIntss a)) (zr true)) (An (An (ci (o1 hpre y0)) (zr nilN)) tv))) (Ak 1 (An (zr true) (zr true))))) (o2 hpre y0) (fun (x1:Nat) hx1 => ?_)
  refine swp_seq ?_
  refine swp_seq ?_
  refine zR [0,1,5,14] [] (Ak 4 tv) ?_
  refine zI (decide ((x1:Int) < (↑(a.length):Int))) (fun y2 => ?_) (fun y2 => ?_)
  ·refine swp_skip ?_
   refine swp_seq ?_
   refine swp_block ?_
   refine swp_seq ?_
   refine zC ([(8,CallSpec.eq (s40 (a.getD x1 []) (a.getD x1 [])) [true,true])]) [0,1,5,26] [] (Ak 2 (An (An (o3 hpre y0 x1 hx1 y2) (o4 hpre y0 x1 hx1 y2)) (Ak 3 (An (An (o5 hpre y0 x1 hx1 y2) (o6 hpre y0 x1 hx1 y2)) (Ak 1 (An (An (An (zr (aInts (a.getD x1 []))) (An (zr (aInts (a.getD x1 []))) tv)) (An (t40 (a.getD x1 []) (a.getD x1 [])) (An (o7 hpre y0 x1 hx1 y2) (Ak 1 (fun (i3:Env)=>tv))))) (Ak 1 tv))))))) ?_
   refine zI (!sameInts (a.getD x1 []) (a.getD x1 [])) (fun y4 => ?_) (fun y4 => ?_)
   ·refine swp_seq ?_
    refine zR [4] [] (Ak 1 tv) ?_
    refine swp_ret ?_
    exact zT [] (An (Ak 1 tv) (An (An (cb (o8 hpre y0 x1 hx1 y2 y4)) (zr nilN)) (An (zr true) (An (zr true) (zr true)))))
   ·refine swp_skip ?_
    refine zR [0,1,5] [] (Ak 1 (An (o9 hpre y0 x1 hx1 y2 y4) (Ak 1 tv))) ?_
    exact zn (zE hE [] [] [0,1] [] (An (An (An (zr (aIntss a)) (zr true)) (An (An (zr (aIntss a)) (zr true)) (An (An (ci (o10 hpre y0 x1 hx1 y2 y4)) (zr nilN)) tv))) (Ak 1 (An (zr true) (zr true))))) (o11 hpre y0 x1 hx1 y2 y4) (o12 hpre y0 x1 hx1 y2 y4)
  ·refine swp_exit ?_
   refine swp_seq ?_
   refine zR [4] [] (Ak 1 tv) ?_
   refine swp_ret ?_
   exact zT [] (An (Ak 1 tv) (An (An (zr (bv true)) (zr nilN)) (An (zr true) (An (zr true) (zr true)))))
theorem same_self (l:List Int):sameInts l l=true:=by unfold sameInts; simp
theorem t79 (a:List (List Int)):Triple Try.prog 79 (s79 a):=by
 apply w79
 all_goals (rintro ⟨h1,h2⟩; intro h)
 case o0=>simp at h
 case o1=>rfl
 case o2=>omega
 all_goals (intro x hx hx2; simp only [decide_eq_true_eq,decide_eq_false_iff_not] at hx2; have h3:=h2 x)
 case o7=>simp only [big]; omega
 case o8=>intro hh; rw [same_self] at hh; cases hh
 all_goals (first | omega | (intro _; first | omega | (simp only [inI]; omega)))
theorem w39 (f:Frm)
  (o0:smallF f->(!decide (f.length=f.length))=false->(!!decide (f.length=f.length))=true)
  (o1:smallF f->(bif !decide (f.length=f.length) then true else !decide (f.slack=f.slack))=false->(!bif !decide (f.length=f.length) then true else !decide (f.slack=f.slack))=true)
  (o2:smallF f->(bif bif !decide (f.length=f.length) then true else !decide (f.slack=f.slack) then true else !decide ((↑(f.strips.length):Int)=(↑(f.strips.length):Int)))=false->(!bif bif !decide (f.length=f.length) then true else !decide (f.slack=f.slack) then true else !decide ((↑(f.strips.length):Int)=(↑(f.strips.length):Int)))=true)
  (o3:smallF f->(!bif bif bif !decide (f.length=f.length) then true else !decide (f.slack=f.slack) then true else !decide ((↑(f.strips.length):Int)=(↑(f.strips.length):Int)) then true else !decide ((↑(f.pieces.length):Int)=(↑(f.pieces.length):Int)))=true -> ∀ (i50:Nat),i50 < f.columns.length -> [aInts (col f i50)] = [aInts (f.columns.getD i50 [])])
  (o4:smallF f->(!bif bif bif !decide (f.length=f.length) then true else !decide (f.slack=f.slack) then true else !decide ((↑(f.strips.length):Int)=(↑(f.strips.length):Int)) then true else !decide ((↑(f.pieces.length):Int)=(↑(f.pieces.length):Int)))=true -> ∀ (i52:Nat),i52 < f.columns.length -> [aInts (col f i52)] = [aInts (f.columns.getD i52 [])])
  (o5:smallF f->(!bif bif bif !decide (f.length=f.length) then true else !decide (f.slack=f.slack) then true else !decide ((↑(f.strips.length):Int)=(↑(f.strips.length):Int)) then true else !decide ((↑(f.pieces.length):Int)=(↑(f.pieces.length):Int)))=true->f.columns.length<=64)
  (o6:smallF f->(!bif bif bif !decide (f.length=f.length) then true else !decide (f.slack=f.slack) then true else !decide ((↑(f.strips.length):Int)=(↑(f.strips.length):Int)) then true else !decide ((↑(f.pieces.length):Int)=(↑(f.pieces.length):Int)))=true -> ∀ (i54:Nat),(f.columns.getD i54 []).length<=64)
  (o7:smallF f->(bif bif bif !decide (f.length=f.length) then true else !decide (f.slack=f.slack) then true else !decide ((↑(f.strips.length):Int)=(↑(f.strips.length):Int)) then true else !decide ((↑(f.pieces.length):Int)=(↑(f.pieces.length):Int)))=false->(!bif bif bif !decide (f.length=f.length) then true else !decide (f.slack=f.slack) then true else !decide ((↑(f.strips.length):Int)=(↑(f.strips.length):Int)) then true else !decide ((↑(f.pieces.length):Int)=(↑(f.pieces.length):Int)))=true)
  (o8:smallF f->(bif bif bif bif !decide (f.length=f.length) then true else !decide (f.slack=f.slack) then true else !decide ((↑(f.strips.length):Int)=(↑(f.strips.length):Int)) then true else !decide ((↑(f.pieces.length):Int)=(↑(f.pieces.length):Int)) then true else false)=true->false=true)
  (o9:smallF f->(bif bif bif bif !decide (f.length=f.length) then true else !decide (f.slack=f.slack) then true else !decide ((↑(f.strips.length):Int)=(↑(f.strips.length):Int)) then true else !decide ((↑(f.pieces.length):Int)=(↑(f.pieces.length):Int)) then true else false)=false->0=(↑0:Int))
  (o10:smallF f->(bif bif bif bif !decide (f.length=f.length) then true else !decide (f.slack=f.slack) then true else !decide ((↑(f.strips.length):Int)=(↑(f.strips.length):Int)) then true else !decide ((↑(f.pieces.length):Int)=(↑(f.pieces.length):Int)) then true else false)=false->0<=f.strips.length)
  (o11:smallF f->(bif bif bif bif !decide (f.length=f.length) then true else !decide (f.slack=f.slack) then true else !decide ((↑(f.strips.length):Int)=(↑(f.strips.length):Int)) then true else !decide ((↑(f.pieces.length):Int)=(↑(f.pieces.length):Int)) then true else false)=false -> ∀ (x61:Nat),x61<=f.strips.length->decide ((x61:Int) < (↑(f.strips.length):Int))=true->0<=(x61:Int))
  (o12:smallF f->(bif bif bif bif !decide (f.length=f.length) then true else !decide (f.slack=f.slack) then true else !decide ((↑(f.strips.length):Int)=(↑(f.strips.length):Int)) then true else !decide ((↑(f.pieces.length):Int)=(↑(f.pieces.length):Int)) then true else false)=false -> ∀ (x61:Nat),x61<=f.strips.length->decide ((x61:Int) < (↑(f.strips.length):Int))=true->(x61:Int) < (↑(f.strips.length):Int))
  (o13:smallF f->(bif bif bif bif !decide (f.length=f.length) then true else !decide (f.slack=f.slack) then true else !decide ((↑(f.strips.length):Int)=(↑(f.strips.length):Int)) then true else !decide ((↑(f.pieces.length):Int)=(↑(f.pieces.length):Int)) then true else false)=false -> ∀ (x61:Nat),x61<=f.strips.length->decide ((x61:Int) < (↑(f.strips.length):Int))=true->0<=(x61:Int))
  (o14:smallF f->(bif bif bif bif !decide (f.length=f.length) then true else !decide (f.slack=f.slack) then true else !decide ((↑(f.strips.length):Int)=(↑(f.strips.length):Int)) then true else !decide ((↑(f.pieces.length):Int)=(↑(f.pieces.length):Int)) then true else false)=false -> ∀ (x61:Nat),x61<=f.strips.length->decide ((x61:Int) < (↑(f.strips.length):Int))=true->(x61:Int) < (↑(f.strips.length):Int))
  (o15:smallF f->(bif bif bif bif !decide (f.length=f.length) then true else !decide (f.slack=f.slack) then true else !decide ((↑(f.strips.length):Int)=(↑(f.strips.length):Int)) then true else !decide ((↑(f.pieces.length):Int)=(↑(f.pieces.length):Int)) then true else false)=false -> ∀ (x61:Nat),x61<=f.strips.length->decide ((x61:Int) < (↑(f.strips.length):Int))=true->(!(decide ((stp f x61).thick=(stp f x61).thick) && (decide ((stp f x61).many=(stp f x61).many) && true)))=true->false=true)
  (o16:smallF f->(bif bif bif bif !decide (f.length=f.length) then true else !decide (f.slack=f.slack) then true else !decide ((↑(f.strips.length):Int)=(↑(f.strips.length):Int)) then true else !decide ((↑(f.pieces.length):Int)=(↑(f.pieces.length):Int)) then true else false)=false -> ∀ (x61:Nat),x61<=f.strips.length->decide ((x61:Int) < (↑(f.strips.length):Int))=true->(!(decide ((stp f x61).thick=(stp f x61).thick) && (decide ((stp f x61).many=(stp f x61).many) && true)))=false->inI ((x61:Int) + 1))
  (o17:smallF f->(bif bif bif bif !decide (f.length=f.length) then true else !decide (f.slack=f.slack) then true else !decide ((↑(f.strips.length):Int)=(↑(f.strips.length):Int)) then true else !decide ((↑(f.pieces.length):Int)=(↑(f.pieces.length):Int)) then true else false)=false -> ∀ (x61:Nat),x61<=f.strips.length->decide ((x61:Int) < (↑(f.strips.length):Int))=true->(!(decide ((stp f x61).thick=(stp f x61).thick) && (decide ((stp f x61).many=(stp f x61).many) && true)))=false->(x61:Int) + 1=(↑(x61 + 1):Int))
  (o18:smallF f->(bif bif bif bif !decide (f.length=f.length) then true else !decide (f.slack=f.slack) then true else !decide ((↑(f.strips.length):Int)=(↑(f.strips.length):Int)) then true else !decide ((↑(f.pieces.length):Int)=(↑(f.pieces.length):Int)) then true else false)=false -> ∀ (x61:Nat),x61<=f.strips.length->decide ((x61:Int) < (↑(f.strips.length):Int))=true->(!(decide ((stp f x61).thick=(stp f x61).thick) && (decide ((stp f x61).many=(stp f x61).many) && true)))=false->x61 + 1<=f.strips.length)
  (o19:smallF f->(bif bif bif bif !decide (f.length=f.length) then true else !decide (f.slack=f.slack) then true else !decide ((↑(f.strips.length):Int)=(↑(f.strips.length):Int)) then true else !decide ((↑(f.pieces.length):Int)=(↑(f.pieces.length):Int)) then true else false)=false -> ∀ (x61:Nat),x61<=f.strips.length->decide ((x61:Int) < (↑(f.strips.length):Int))=true->(!(decide ((stp f x61).thick=(stp f x61).thick) && (decide ((stp f x61).many=(stp f x61).many) && true)))=false->f.strips.length - (x61 + 1) < f.strips.length - x61)
  (o20:smallF f->(bif bif bif bif !decide (f.length=f.length) then true else !decide (f.slack=f.slack) then true else !decide ((↑(f.strips.length):Int)=(↑(f.strips.length):Int)) then true else !decide ((↑(f.pieces.length):Int)=(↑(f.pieces.length):Int)) then true else false)=false -> ∀ (x61:Nat),x61<=f.strips.length->decide ((x61:Int) < (↑(f.strips.length):Int))=false->0=(↑0:Int))
  (o21:smallF f->(bif bif bif bif !decide (f.length=f.length) then true else !decide (f.slack=f.slack) then true else !decide ((↑(f.strips.length):Int)=(↑(f.strips.length):Int)) then true else !decide ((↑(f.pieces.length):Int)=(↑(f.pieces.length):Int)) then true else false)=false -> ∀ (x61:Nat),x61<=f.strips.length->decide ((x61:Int) < (↑(f.strips.length):Int))=false->0<=f.pieces.length)
  (o22:smallF f->(bif bif bif bif !decide (f.length=f.length) then true else !decide (f.slack=f.slack) then true else !decide ((↑(f.strips.length):Int)=(↑(f.strips.length):Int)) then true else !decide ((↑(f.pieces.length):Int)=(↑(f.pieces.length):Int)) then true else false)=false -> ∀ (x61:Nat),x61<=f.strips.length->decide ((x61:Int) < (↑(f.strips.length):Int))=false -> ∀ (x64:Nat),x64<=f.pieces.length->decide ((x64:Int) < (↑(f.pieces.length):Int))=true->0<=(x64:Int))
  (o23:smallF f->(bif bif bif bif !decide (f.length=f.length) then true else !decide (f.slack=f.slack) then true else !decide ((↑(f.strips.length):Int)=(↑(f.strips.length):Int)) then true else !decide ((↑(f.pieces.length):Int)=(↑(f.pieces.length):Int)) then true else false)=false -> ∀ (x61:Nat),x61<=f.strips.length->decide ((x61:Int) < (↑(f.strips.length):Int))=false -> ∀ (x64:Nat),x64<=f.pieces.length->decide ((x64:Int) < (↑(f.pieces.length):Int))=true->(x64:Int) < (↑(f.pieces.length):Int))
  (o24:smallF f->(bif bif bif bif !decide (f.length=f.length) then true else !decide (f.slack=f.slack) then true else !decide ((↑(f.strips.length):Int)=(↑(f.strips.length):Int)) then true else !decide ((↑(f.pieces.length):Int)=(↑(f.pieces.length):Int)) then true else false)=false -> ∀ (x61:Nat),x61<=f.strips.length->decide ((x61:Int) < (↑(f.strips.length):Int))=false -> ∀ (x64:Nat),x64<=f.pieces.length->decide ((x64:Int) < (↑(f.pieces.length):Int))=true->0<=(x64:Int))
  (o25:smallF f->(bif bif bif bif !decide (f.length=f.length) then true else !decide (f.slack=f.slack) then true else !decide ((↑(f.strips.length):Int)=(↑(f.strips.length):Int)) then true else !decide ((↑(f.pieces.length):Int)=(↑(f.pieces.length):Int)) then true else false)=false -> ∀ (x61:Nat),x61<=f.strips.length->decide ((x61:Int) < (↑(f.strips.length):Int))=false -> ∀ (x64:Nat),x64<=f.pieces.length->decide ((x64:Int) < (↑(f.pieces.length):Int))=true->(x64:Int) < (↑(f.pieces.length):Int))
  (o26:smallF f->(bif bif bif bif !decide (f.length=f.length) then true else !decide (f.slack=f.slack) then true else !decide ((↑(f.strips.length):Int)=(↑(f.strips.length):Int)) then true else !decide ((↑(f.pieces.length):Int)=(↑(f.pieces.length):Int)) then true else false)=false -> ∀ (x61:Nat),x61<=f.strips.length->decide ((x61:Int) < (↑(f.strips.length):Int))=false -> ∀ (x64:Nat),x64<=f.pieces.length->decide ((x64:Int) < (↑(f.pieces.length):Int))=true->(!(decide ((pc f x64).lo=(pc f x64).lo) && (decide ((pc f x64).hi=(pc f x64).hi) && (decide ((pc f x64).pence=(pc f x64).pence) && true))))=true->false=true)
  (o27:smallF f->(bif bif bif bif !decide (f.length=f.length) then true else !decide (f.slack=f.slack) then true else !decide ((↑(f.strips.length):Int)=(↑(f.strips.length):Int)) then true else !decide ((↑(f.pieces.length):Int)=(↑(f.pieces.length):Int)) then true else false)=false -> ∀ (x61:Nat),x61<=f.strips.length->decide ((x61:Int) < (↑(f.strips.length):Int))=false -> ∀ (x64:Nat),x64<=f.pieces.length->decide ((x64:Int) < (↑(f.pieces.length):Int))=true->(!(decide ((pc f x64).lo=(pc f x64).lo) && (decide ((pc f x64).hi=(pc f x64).hi) && (decide ((pc f x64).pence=(pc f x64).pence) && true))))=false->inI ((x64:Int) + 1))
  (o28:smallF f->(bif bif bif bif !decide (f.length=f.length) then true else !decide (f.slack=f.slack) then true else !decide ((↑(f.strips.length):Int)=(↑(f.strips.length):Int)) then true else !decide ((↑(f.pieces.length):Int)=(↑(f.pieces.length):Int)) then true else false)=false -> ∀ (x61:Nat),x61<=f.strips.length->decide ((x61:Int) < (↑(f.strips.length):Int))=false -> ∀ (x64:Nat),x64<=f.pieces.length->decide ((x64:Int) < (↑(f.pieces.length):Int))=true->(!(decide ((pc f x64).lo=(pc f x64).lo) && (decide ((pc f x64).hi=(pc f x64).hi) && (decide ((pc f x64).pence=(pc f x64).pence) && true))))=false->(x64:Int) + 1=(↑(x64 + 1):Int))
  (o29:smallF f->(bif bif bif bif !decide (f.length=f.length) then true else !decide (f.slack=f.slack) then true else !decide ((↑(f.strips.length):Int)=(↑(f.strips.length):Int)) then true else !decide ((↑(f.pieces.length):Int)=(↑(f.pieces.length):Int)) then true else false)=false -> ∀ (x61:Nat),x61<=f.strips.length->decide ((x61:Int) < (↑(f.strips.length):Int))=false -> ∀ (x64:Nat),x64<=f.pieces.length->decide ((x64:Int) < (↑(f.pieces.length):Int))=true->(!(decide ((pc f x64).lo=(pc f x64).lo) && (decide ((pc f x64).hi=(pc f x64).hi) && (decide ((pc f x64).pence=(pc f x64).pence) && true))))=false->x64 + 1<=f.pieces.length)
  (o30:smallF f->(bif bif bif bif !decide (f.length=f.length) then true else !decide (f.slack=f.slack) then true else !decide ((↑(f.strips.length):Int)=(↑(f.strips.length):Int)) then true else !decide ((↑(f.pieces.length):Int)=(↑(f.pieces.length):Int)) then true else false)=false -> ∀ (x61:Nat),x61<=f.strips.length->decide ((x61:Int) < (↑(f.strips.length):Int))=false -> ∀ (x64:Nat),x64<=f.pieces.length->decide ((x64:Int) < (↑(f.pieces.length):Int))=true->(!(decide ((pc f x64).lo=(pc f x64).lo) && (decide ((pc f x64).hi=(pc f x64).hi) && (decide ((pc f x64).pence=(pc f x64).pence) && true))))=false->f.pieces.length - (x64 + 1) < f.pieces.length - x64) :
  Triple Try.prog 39 (s39 f):=by
 refine triple_of Try.func39 rfl Try.call39 T0_ok _ rfl rfl rfl rfl (Nat.le_of_ble_eq_true (by kernel_rfl)) (fun _ _ _ _ h=>h) ?_
 intro hpre C hC _ hE
 obtain ⟨P,w0,E0,av,hA,ro,df⟩:=C
 obtain ⟨rfl,rfl,rfl⟩:=hC
 refine swp_seq ?_
 refine zR [2,3] [0,8] (Ak 3 tv) ?_
 refine swp_seq ?_
 refine swp_seq ?_
 refine zC ([(35,CallSpec.eq (s79 f.columns) [false,false])]) [2,3,44] [0,8] (Ak 6 (An (fun (y0:(!!decide (f.length=f.length))=true)=>(An (Ak 1 tv) tv)) (An (fun (y1:(!!decide (f.length=f.length))=true)=>(An (An (fun (y2:(!!decide (f.length=f.length))=true)=>y1) tv) tv)) (An (fun (y3:(!!decide (f.length=f.length))=true)=>(An (Ak 1 tv) tv)) (An (fun (y4:(!!decide (f.length=f.length))=true)=>(An (An (fun (y5:(!!decide (f.length=f.length))=true)=>y4) tv) tv)) (An (fun (y6:(!!decide (f.length=f.length))=true)=>(An (An (fun (y7:(!!decide (f.length=f.length))=true)=>y6) (An (fun (y8:(!!decide (f.length=f.length))=true)=>y6) tv)) tv)) (An (An (fun (y9:(!decide (f.length=f.length))=true)=>tv) (fun (y10:(!decide (f.length=f.length))=false)=>(o0 hpre y10))) (Ak 1 (An (fun (y11:(!bif !decide (f.length=f.length) then true else !decide (f.slack=f.slack))=true)=>(An (Ak 1 tv) tv)) (An (fun (y12:(!bif !decide (f.length=f.length) then true else !decide (f.slack=f.slack))=true)=>(An (An (fun (y13:(!bif !decide (f.length=f.length) then true else !decide (f.slack=f.slack))=true)=>y12) tv) tv)) (An (fun (y14:(!bif !decide (f.length=f.length) then true else !decide (f.slack=f.slack))=true)=>(An (An (fun (y15:(!bif !decide (f.length=f.length) then true else !decide (f.slack=f.slack))=true)=>y14) tv) tv)) (An (fun (y16:(!bif !decide (f.length=f.length) then true else !decide (f.slack=f.slack))=true)=>(An (Ak 1 tv) tv)) (An (fun (y17:(!bif !decide (f.length=f.length) then true else !decide (f.slack=f.slack))=true)=>(An (An (fun (y18:(!bif !decide (f.length=f.length) then true else !decide (f.slack=f.slack))=true)=>y17) tv) tv)) (An (fun (y19:(!bif !decide (f.length=f.length) then true else !decide (f.slack=f.slack))=true)=>(An (An (fun (y20:(!bif !decide (f.length=f.length) then true else !decide (f.slack=f.slack))=true)=>y19) tv) tv)) (An (fun (y21:(!bif !decide (f.length=f.length) then true else !decide (f.slack=f.slack))=true)=>(An (An (fun (y22:(!bif !decide (f.length=f.length) then true else !decide (f.slack=f.slack))=true)=>y21) (An (fun (y23:(!bif !decide (f.length=f.length) then true else !decide (f.slack=f.slack))=true)=>y21) tv)) tv)) (An (An (fun (y24:(bif !decide (f.length=f.length) then true else !decide (f.slack=f.slack))=true)=>tv) (fun (y25:(bif !decide (f.length=f.length) then true else !decide (f.slack=f.slack))=false)=>(o1 hpre y25))) (Ak 1 (An (fun (y26:(!bif bif !decide (f.length=f.length) then true else !decide (f.slack=f.slack) then true else !decide ((↑(f.strips.length):Int)=(↑(f.strips.length):Int)))=true)=>(An (Ak 1 tv) tv)) (An (fun (y27:(!bif bif !decide (f.length=f.length) then true else !decide (f.slack=f.slack) then true else !decide ((↑(f.strips.length):Int)=(↑(f.strips.length):Int)))=true)=>(An (An (fun (y28:(!bif bif !decide (f.length=f.length) then true else !decide (f.slack=f.slack) then true else !decide ((↑(f.strips.length):Int)=(↑(f.strips.length):Int)))=true)=>y27) tv) tv)) (An (fun (y29:(!bif bif !decide (f.length=f.length) then true else !decide (f.slack=f.slack) then true else !decide ((↑(f.strips.length):Int)=(↑(f.strips.length):Int)))=true)=>(An (An (fun (y30:(!bif bif !decide (f.length=f.length) then true else !decide (f.slack=f.slack) then true else !decide ((↑(f.strips.length):Int)=(↑(f.strips.length):Int)))=true)=>y29) tv) tv)) (An (fun (y31:(!bif bif !decide (f.length=f.length) then true else !decide (f.slack=f.slack) then true else !decide ((↑(f.strips.length):Int)=(↑(f.strips.length):Int)))=true)=>(An (Ak 1 tv) tv)) (An (fun (y32:(!bif bif !decide (f.length=f.length) then true else !decide (f.slack=f.slack) then true else !decide ((↑(f.strips.length):Int)=(↑(f.strips.length):Int)))=true)=>(An (An (fun (y33:(!bif bif !decide (f.length=f.length) then true else !decide (f.slack=f.slack) then true else !decide ((↑(f.strips.length):Int)=(↑(f.strips.length):Int)))=true)=>y32) tv) tv)) (An (fun (y34:(!bif bif !decide (f.length=f.length) then true else !decide (f.slack=f.slack) then true else !decide ((↑(f.strips.length):Int)=(↑(f.strips.length):Int)))=true)=>(An (An (fun (y35:(!bif bif !decide (f.length=f.length) then true else !decide (f.slack=f.slack) then true else !decide ((↑(f.strips.length):Int)=(↑(f.strips.length):Int)))=true)=>y34) tv) tv)) (An (fun (y36:(!bif bif !decide (f.length=f.length) then true else !decide (f.slack=f.slack) then true else !decide ((↑(f.strips.length):Int)=(↑(f.strips.length):Int)))=true)=>(An (An (fun (y37:(!bif bif !decide (f.length=f.length) then true else !decide (f.slack=f.slack) then true else !decide ((↑(f.strips.length):Int)=(↑(f.strips.length):Int)))=true)=>y36) (An (fun (y38:(!bif bif !decide (f.length=f.length) then true else !decide (f.slack=f.slack) then true else !decide ((↑(f.strips.length):Int)=(↑(f.strips.length):Int)))=true)=>y36) tv)) tv)) (An (An (fun (y39:(bif bif !decide (f.length=f.length) then true else !decide (f.slack=f.slack) then true else !decide ((↑(f.strips.length):Int)=(↑(f.strips.length):Int)))=true)=>tv) (fun (y40:(bif bif !decide (f.length=f.length) then true else !decide (f.slack=f.slack) then true else !decide ((↑(f.strips.length):Int)=(↑(f.strips.length):Int)))=false)=>(o2 hpre y40))) (Ak 1 (An (fun (y41:(!bif bif bif !decide (f.length=f.length) then true else !decide (f.slack=f.slack) then true else !decide ((↑(f.strips.length):Int)=(↑(f.strips.length):Int)) then true else !decide ((↑(f.pieces.length):Int)=(↑(f.pieces.length):Int)))=true)=>(An (Ak 1 tv) tv)) (An (fun (y42:(!bif bif bif !decide (f.length=f.length) then true else !decide (f.slack=f.slack) then true else !decide ((↑(f.strips.length):Int)=(↑(f.strips.length):Int)) then true else !decide ((↑(f.pieces.length):Int)=(↑(f.pieces.length):Int)))=true)=>(An (An (fun (y43:(!bif bif bif !decide (f.length=f.length) then true else !decide (f.slack=f.slack) then true else !decide ((↑(f.strips.length):Int)=(↑(f.strips.length):Int)) then true else !decide ((↑(f.pieces.length):Int)=(↑(f.pieces.length):Int)))=true)=>y42) tv) tv)) (An (fun (y44:(!bif bif bif !decide (f.length=f.length) then true else !decide (f.slack=f.slack) then true else !decide ((↑(f.strips.length):Int)=(↑(f.strips.length):Int)) then true else !decide ((↑(f.pieces.length):Int)=(↑(f.pieces.length):Int)))=true)=>(An (Ak 1 tv) tv)) (An (fun (y45:(!bif bif bif !decide (f.length=f.length) then true else !decide (f.slack=f.slack) then true else !decide ((↑(f.strips.length):Int)=(↑(f.strips.length):Int)) then true else !decide ((↑(f.pieces.length):Int)=(↑(f.pieces.length):Int)))=true)=>(An (An (fun (y46:(!bif bif bif !decide (f.length=f.length) then true else !decide (f.slack=f.slack) then true else !decide ((↑(f.strips.length):Int)=(↑(f.strips.length):Int)) then true else !decide ((↑(f.pieces.length):Int)=(↑(f.pieces.length):Int)))=true)=>y45) tv) tv)) (An (fun (y47:(!bif bif bif !decide (f.length=f.length) then true else !decide (f.slack=f.slack) then true else !decide ((↑(f.strips.length):Int)=(↑(f.strips.length):Int)) then true else !decide ((↑(f.pieces.length):Int)=(↑(f.pieces.length):Int)))=true)=>(An (Ak 1 (An (fun (y48:(!bif bif bif !decide (f.length=f.length) then true else !decide (f.slack=f.slack) then true else !decide ((↑(f.strips.length):Int)=(↑(f.strips.length):Int)) then true else !decide ((↑(f.pieces.length):Int)=(↑(f.pieces.length):Int)))=true)=>y47) (An (fun (y49:(!bif bif bif !decide (f.length=f.length) then true else !decide (f.slack=f.slack) then true else !decide ((↑(f.strips.length):Int)=(↑(f.strips.length):Int)) then true else !decide ((↑(f.pieces.length):Int)=(↑(f.pieces.length):Int)))=true)=>y47) tv))) (An (An (An (zr 1) (An (zr f.columns.length) (fun (i50:Nat)=>(fun (y51:i50 < f.columns.length)=>(o3 hpre y47 i50 y51))))) (An (An (zr 1) (An (zr f.columns.length) (fun (i52:Nat)=>(fun (y53:i52 < f.columns.length)=>(o4 hpre y47 i52 y53))))) tv)) (An (t79 f.columns) (An (An (o5 hpre y47) (fun (i54:Nat)=>(o6 hpre y47 i54))) (Ak 1 (fun (i55:Env)=>tv))))))) (An (fun (y56:(!bif bif bif !decide (f.length=f.length) then true else !decide (f.slack=f.slack) then true else !decide ((↑(f.strips.length):Int)=(↑(f.strips.length):Int)) then true else !decide ((↑(f.pieces.length):Int)=(↑(f.pieces.length):Int)))=true)=>(An (An (fun (y57:(!bif bif bif !decide (f.length=f.length) then true else !decide (f.slack=f.slack) then true else !decide ((↑(f.strips.length):Int)=(↑(f.strips.length):Int)) then true else !decide ((↑(f.pieces.length):Int)=(↑(f.pieces.length):Int)))=true)=>y56) tv) tv)) (An (An (fun (y58:(bif bif bif !decide (f.length=f.length) then true else !decide (f.slack=f.slack) then true else !decide ((↑(f.strips.length):Int)=(↑(f.strips.length):Int)) then true else !decide ((↑(f.pieces.length):Int)=(↑(f.pieces.length):Int)))=true)=>tv) (fun (y59:(bif bif bif !decide (f.length=f.length) then true else !decide (f.slack=f.slack) then true else !decide ((↑(f.strips.length):Int)=(↑(f.strips.length):Int)) then true else !decide ((↑(f.pieces.length):Int)=(↑(f.pieces.length):Int)))=false)=>(o7 hpre y59))) tv))))))))))))))))))))))))))))))))) ?_
 refine zI (bif bif bif bif !decide (f.length=f.length) then true else !decide (f.slack=f.slack) then true else !decide ((↑(f.strips.length):Int)=(↑(f.strips.length):Int)) then true else !decide ((↑(f.pieces.length):Int)=(↑(f.pieces.length):Int)) then true else false) (fun y60 => ?_) (fun y60 => ?_)
 ·refine swp_seq ?_
  refine zR [4] [] (Ak 1 tv) ?_
  refine swp_ret ?_
  exact zT [] (An (Ak 1 tv) (An (An (cb (o8 hpre y60)) (zr nilN)) (An (zr true) (An (zr true) (zr true)))))
 ·refine swp_skip ?_
  refine swp_seq ?_
  refine swp_seq ?_
  refine zR [2,3,5] [0,8] (Ak 1 tv) ?_
  refine swp_block ?_
  refine zL (Hint.ann (h39a f) [(2,AV.ptr 0 []),(3,AV.ptr 8 [])] [(0,OB.cells 26 (cFrm f)),(8,OB.cells 26 (cFrm f))] 10336) (zE hE [] [(0,.same 0),(8,.same 8)] [] [0,8] (An (An (An (zr (some (Src.same 0))) (zr nilP)) (An (An (zr (some (Src.same 8))) (zr nilP)) (An (An (ci (o9 hpre y60)) (zr nilN)) tv))) (An (An (An (zr (OB.cells 26 (cFrm f))) (zr true)) (An (An (zr (OB.cells 26 (cFrm f))) (zr true)) tv)) (An (zr true) (zr true))))) (o10 hpre y60) (fun (x61:Nat) hx61 => ?_)
  refine swp_seq ?_
  refine swp_seq ?_
  refine zR [2,3,5,49] [0,8] (Ak 5 tv) ?_
  refine zI (decide ((x61:Int) < (↑(f.strips.length):Int))) (fun y62 => ?_) (fun y62 => ?_)
  ·refine swp_skip ?_
   refine swp_seq ?_
   refine swp_block ?_
   refine swp_seq ?_
   refine zR [2,3,5,62] [0,8] (Ak 3 (An (An (o11 hpre y60 x61 hx61 y62) (o12 hpre y60 x61 hx61 y62)) (Ak 4 (An (An (o13 hpre y60 x61 hx61 y62) (o14 hpre y60 x61 hx61 y62)) (Ak 2 tv))))) ?_
   refine zI (!(decide ((stp f x61).thick=(stp f x61).thick) && (decide ((stp f x61).many=(stp f x61).many) && true))) (fun y63 => ?_) (fun y63 => ?_)
   ·refine swp_seq ?_
    refine zR [4] [] (Ak 1 tv) ?_
    refine swp_ret ?_
    exact zT [] (An (Ak 1 tv) (An (An (cb (o15 hpre y60 x61 hx61 y62 y63)) (zr nilN)) (An (zr true) (An (zr true) (zr true)))))
   ·refine swp_skip ?_
    refine zR [2,3,5] [0,8] (Ak 1 (An (o16 hpre y60 x61 hx61 y62 y63) (Ak 1 tv))) ?_
    exact zn (zE hE [] [(0,.same 0),(8,.same 8)] [] [0,8] (An (An (An (zr (some (Src.same 0))) (zr nilP)) (An (An (zr (some (Src.same 8))) (zr nilP)) (An (An (ci (o17 hpre y60 x61 hx61 y62 y63)) (zr nilN)) tv))) (An (An (An (zr (OB.cells 26 (cFrm f))) (zr true)) (An (An (zr (OB.cells 26 (cFrm f))) (zr true)) tv)) (An (zr true) (zr true))))) (o18 hpre y60 x61 hx61 y62 y63) (o19 hpre y60 x61 hx61 y62 y63)
  ·refine swp_exit ?_
   refine swp_seq ?_
   refine swp_seq ?_
   refine zR [2,3,6] [0,8] (Ak 1 tv) ?_
   refine swp_block ?_
   refine zL (Hint.ann (h39b f) [(2,AV.ptr 0 []),(3,AV.ptr 8 [])] [(0,OB.cells 26 (cFrm f)),(8,OB.cells 26 (cFrm f))] 20384) (zE hE [] [(0,.same 0),(8,.same 8)] [] [0,8] (An (An (An (zr (some (Src.same 0))) (zr nilP)) (An (An (zr (some (Src.same 8))) (zr nilP)) (An (An (ci (o20 hpre y60 x61 hx61 y62)) (zr nilN)) tv))) (An (An (An (zr (OB.cells 26 (cFrm f))) (zr true)) (An (An (zr (OB.cells 26 (cFrm f))) (zr true)) tv)) (An (zr true) (zr true))))) (o21 hpre y60 x61 hx61 y62) (fun (x64:Nat) hx64 => ?_)
   refine swp_seq ?_
   refine swp_seq ?_
   refine zR [2,3,6,67] [0,8] (Ak 5 tv) ?_
   refine zI (decide ((x64:Int) < (↑(f.pieces.length):Int))) (fun y65 => ?_) (fun y65 => ?_)
   ·refine swp_skip ?_
    refine swp_seq ?_
    refine swp_block ?_
    refine swp_seq ?_
    refine zR [2,3,6,80] [0,8] (Ak 3 (An (An (o22 hpre y60 x61 hx61 y62 x64 hx64 y65) (o23 hpre y60 x61 hx61 y62 x64 hx64 y65)) (Ak 4 (An (An (o24 hpre y60 x61 hx61 y62 x64 hx64 y65) (o25 hpre y60 x61 hx61 y62 x64 hx64 y65)) (Ak 2 tv))))) ?_
    refine zI (!(decide ((pc f x64).lo=(pc f x64).lo) && (decide ((pc f x64).hi=(pc f x64).hi) && (decide ((pc f x64).pence=(pc f x64).pence) && true)))) (fun y66 => ?_) (fun y66 => ?_)
    ·refine swp_seq ?_
     refine zR [4] [] (Ak 1 tv) ?_
     refine swp_ret ?_
     exact zT [] (An (Ak 1 tv) (An (An (cb (o26 hpre y60 x61 hx61 y62 x64 hx64 y65 y66)) (zr nilN)) (An (zr true) (An (zr true) (zr true)))))
    ·refine swp_skip ?_
     refine zR [2,3,6] [0,8] (Ak 1 (An (o27 hpre y60 x61 hx61 y62 x64 hx64 y65 y66) (Ak 1 tv))) ?_
     exact zn (zE hE [] [(0,.same 0),(8,.same 8)] [] [0,8] (An (An (An (zr (some (Src.same 0))) (zr nilP)) (An (An (zr (some (Src.same 8))) (zr nilP)) (An (An (ci (o28 hpre y60 x61 hx61 y62 x64 hx64 y65 y66)) (zr nilN)) tv))) (An (An (An (zr (OB.cells 26 (cFrm f))) (zr true)) (An (An (zr (OB.cells 26 (cFrm f))) (zr true)) tv)) (An (zr true) (zr true))))) (o29 hpre y60 x61 hx61 y62 x64 hx64 y65 y66) (o30 hpre y60 x61 hx61 y62 x64 hx64 y65 y66)
   ·refine swp_exit ?_
    refine swp_seq ?_
    refine zR [4] [] (Ak 1 tv) ?_
    refine swp_ret ?_
    exact zT [] (An (Ak 1 tv) (An (An (zr (bv true)) (zr nilN)) (An (zr true) (An (zr true) (zr true)))))
theorem t39 (f:Frm):Triple Try.prog 39 (s39 f):=by
 apply w39
 all_goals (rintro ⟨h1,h2,h3,h4⟩)
 case o3 | o4=>intro _ i hi; rfl
 all_goals (try (intro _ i; exact h4 i))
 all_goals (simp only [decide_true,Bool.not_true,Bool.not_false,cond_false,cond_true,Bool.and_self])
 all_goals (repeat intro _)
 all_goals (try simp only [decide_eq_true_eq,decide_eq_false_iff_not] at *)
 all_goals (first | rfl | omega | (simp only [inI]; omega) | (exact Nat.zero_le _) | (simp_all; done) | skip)
end Go.Ab
namespace Go.Sh
open Go.Ab
def setsFrom (left first:List Int):List (List Int):=(setsP (left.drop first.length)).map (first ++ ·)
def setsTo (left first:List Int) (n:Nat):List (List Int):=(List.range n).flatMap fun (m:Nat)=>setsFrom left (first ++ [(m:Int)])
def laysOf (f:Frm) (c:Nat) (left s:List Int):List (List (List Int)):=if sureP f c (pointsP f s) then (laysC f (f.columns.length - (c + 1)) (restL left s)).map (s :: ·) else []
def laysTo (f:Frm) (c:Nat) (left:List Int) (n:Nat):List (List (List Int)):=((setsP left).take n).flatMap (laysOf f c left)
def setI (left:List Int) (x:Nat):List Int:=(setsP left).getD x []
def moreL (f:Frm) (c:Nat) (left:List Int) (x:Nat):List (List (List Int)):=laysC f (f.columns.length - (c + 1)) (restL left (setI left x))
def laysIn (f:Frm) (c:Nat) (left:List Int) (x k:Nat):List (List (List Int)):=laysTo f c left x ++ ((moreL f c left x).take k).map (setI left x :: ·)
def laysA (f:Frm):List (List (List Int)):=laysC f f.columns.length (stockTo f f.strips.length)
def bestTo (ls:List (List (List Int))) (i:Nat):List (List Int):=if i=0 then ls.getD 0 [] else layS (fmL (ls.take i))
variable {f:Frm} {left first:List Int}
theorem setsFrom_base (h:first.length=left.length):setsFrom left first = [first]:=by
 unfold setsFrom; rw [h,List.drop_length]; show [first ++ []] = [first]; rw [List.append_nil]
theorem setsTo_succ (left first:List Int) (n:Nat):setsTo left first (n + 1)=setsTo left first n ++ setsFrom left (first ++ [(n:Int)]):=by
 unfold setsTo; rw [List.range_succ,List.flatMap_append]; simp
theorem setsTo_end (h:first.length < left.length):setsTo left first ((left.getD first.length 0).toNat + 1)=setsFrom left first:=by
 unfold setsTo setsFrom
 rw [drop_cons 0 h,setsP,List.map_flatMap]
 refine flatMap_congr' fun m _ => ?_
 rw [List.length_append,List.length_singleton,List.map_map]
 refine List.map_congr_left fun s _ => ?_
 show first ++ [(m:Int)] ++ s=first ++ ((m:Int) :: s)
 rw [List.append_assoc]; rfl
theorem prodL_five:∀ {l:List Int},(∀ q,q < l.length->l.getD q 0<=4)->prodL l<=5 ^ l.length:=by
 intro l
 induction l with
 | nil=>intro _; exact Nat.le_refl _
 | cons a l ih =>
  intro h
  have h0:a<=4:=h 0 (Nat.succ_pos _)
  have h1:=ih (fun q hq=>h (q + 1) (Nat.succ_lt_succ hq))
  show (a.toNat + 1) * prodL l<=5 ^ (l.length + 1)
  rw [Nat.pow_succ,Nat.mul_comm (5 ^ _)]
  exact Nat.mul_le_mul (by omega) h1
theorem setsP_len (l:List Int):(setsP l).length=prodL l:=by rw [setsP_eq,List.length_map,List.length_range]
theorem setsFrom_len (h:left.length<=3) (h1:∀ q,q < left.length->left.getD q 0<=4) (first:List Int):(setsFrom left first).length<=125:=by
 unfold setsFrom
 rw [List.length_map,setsP_len]
 refine Nat.le_trans (prodL_five fun q hq => ?_) (Nat.le_trans (Nat.pow_le_pow_right (by omega) (show (left.drop first.length).length<=3 by rw [List.length_drop]; omega)) (by decide))
 rw [List.length_drop] at hq
 rw [getD_drop]; exact h1 _ (by omega)
theorem setsTo_len (h:left.length<=3) (h1:∀ q,q < left.length->left.getD q 0<=4) (first:List Int) (n:Nat):(setsTo left first n).length<=n * 125:=by
 have:=flatMap_len (fun m:Nat=>setsFrom left (first ++ [(m:Int)])) 125 (List.range n) (fun m _=>setsFrom_len h h1 _)
 rw [List.length_range] at this
 exact this
theorem setsFrom_nil (left:List Int):setsFrom left []=setsP left:=by
 unfold setsFrom; rw [List.length_nil,List.drop_zero]; simp
theorem setI_N {x:Nat} (h:x < prodL left):setI left x=setN left x:=by
 unfold setI; rw [setsP_eq,getD_lt _ _ (by rw [List.length_map,List.length_range]; exact h),List.getElem_map,List.getElem_range]
theorem laysTo_succ {c x:Nat} (h:x < (setsP left).length):laysTo f c left (x + 1)=laysTo f c left x ++ laysOf f c left (setI left x):=by
 unfold laysTo setI; rw [take_succ _ [] h,List.flatMap_append]; simp
theorem laysOf_f {c:Nat} {s:List Int} (h:sureP f c (pointsP f s)=false):laysOf f c left s = []:=by unfold laysOf; rw [h]; rfl
theorem laysOf_t {c x:Nat} (h:sureP f c (pointsP f (setI left x))=true):laysOf f c left (setI left x)=(moreL f c left x).map (setI left x :: ·):=by unfold laysOf moreL; rw [if_pos h]
theorem laysTo_end {c:Nat} (h:c < f.columns.length):laysTo f c left (setsP left).length=laysC f (f.columns.length - c) left:=by
 unfold laysTo
 rw [List.take_of_length_le (Nat.le_refl _),show f.columns.length - c=(f.columns.length - (c + 1)) + 1 by omega,laysC,show f.columns.length - (f.columns.length - (c + 1) + 1)=c by omega]
 rfl
theorem prodL_le:∀ {a b:List Int},a.length=b.length->(∀ q,q < a.length->a.getD q 0<=b.getD q 0)->prodL a<=prodL b:=by
 intro a
 induction a with
 | nil=>intro b h _; rw [List.eq_nil_of_length_eq_zero h.symm]; exact Nat.le_refl _
 | cons x a iha =>
  intro b h h2
  match b,h,h2 with
  | y :: b,h,h2 =>
   have h0:x<=y:=h2 0 (Nat.succ_pos _)
   exact Nat.mul_le_mul (by omega) (iha (Nat.succ.inj h) (fun q hq=>h2 (q + 1) (Nat.succ_lt_succ hq)))
theorem rest_prod (hl:GoodLeft f left) {x:Nat} (h:x < prodL left) (hp:prodL left<=30):prodL (restL left (setI left x))<=30:=by
 rw [setI_N h]
 refine Nat.le_trans (prodL_le (restL_len _ _) fun q hq => ?_) hp
 rw [restL_len] at hq
 rw [restL_get hq]
 have:=hl.set h q hq
 omega
theorem pow30 {m:Nat} (h:m<=2):30 ^ m<=900:=by
 have:m=0 ∨ m=1 ∨ m=2:=by omega
 rcases this with rfl | rfl | rfl <;> decide
theorem moreL_len (hs:Sound f) (hl:GoodLeft f left) (hp:prodL left<=30) {c x:Nat} (hx:x < prodL left):(moreL f c left x).length<=900:=by
 unfold moreL
 have hc:=hs.columns
 refine Nat.le_trans (laysC_len hs _ _ ?_ (rest_prod hl hx hp)) (pow30 (by omega))
 rw [setI_N hx]; exact hl.rest hx
theorem laysTo_len (hs:Sound f) (hl:GoodLeft f left) (hp:prodL left<=30) (c:Nat):∀ x:Nat,x<=prodL left->(laysTo f c left x).length<=x * 900:=by
 intro x
 induction x with
 | zero=>intro _; exact Nat.zero_le _
 | succ x ih =>
  intro h
  rw [laysTo_succ (by rw [setsP_len]; omega),List.length_append]
  have h1:=ih (by omega)
  have h2:(laysOf f c left (setI left x)).length<=900:=by
   cases e:sureP f c (pointsP f (setI left x)) with
   | true=>rw [laysOf_t e,List.length_map]; exact moreL_len hs hl hp (by omega)
   | false=>rw [laysOf_f e]; exact Nat.zero_le _
  omega
theorem laysC_mem:∀ {m:Nat} {left:List Int} {l:List (List Int)},l ∈ laysC f m left->l.length=m:=by
  intro m
  induction m with
  | zero => intro left l h; have : l = [] := by simpa [laysC] using h
            rw [this]; rfl
  | succ m ih =>
    intro left l h
    rw [laysC] at h
    obtain ⟨s,_,h⟩:=List.mem_flatMap.1 h
    split at h
    · obtain ⟨t,ht,rfl⟩:=List.mem_map.1 h
      rw [List.length_cons,ih ht]
    · cases h
theorem moreL_at (hs:Sound f) {c x k:Nat} (h:k < (moreL f c left x).length):((moreL f c left x).getD k []).length<=3:=by
 have hc:=hs.columns
 have:=laysC_mem (getD_mem (moreL f c left x) [] h)
 omega
theorem laysIn_succ {c x k:Nat} (h:k < (moreL f c left x).length):laysIn f c left x (k + 1)=laysIn f c left x k ++ [setI left x :: (moreL f c left x).getD k []]:=by
 unfold laysIn; rw [take_succ _ [] h,List.map_append,← List.append_assoc]; rfl
theorem laysIn_zero (c x:Nat):laysIn f c left x 0=laysTo f c left x:=by unfold laysIn; simp
theorem laysIn_end {c x k:Nat} (hx:x < (setsP left).length) (h:(moreL f c left x).length<=k) (hs:sureP f c (pointsP f (setI left x))=true):laysIn f c left x k=laysTo f c left (x + 1):=by
 unfold laysIn; rw [List.take_of_length_le h,laysTo_succ hx,laysOf_t hs]
theorem laysIn_len (hs:Sound f) (hl:GoodLeft f left) (hp:prodL left<=30) {c x:Nat} (hx:x < prodL left) (k:Nat):(laysIn f c left x k).length<=27900:=by
 unfold laysIn
 rw [List.length_append,List.length_map,List.length_take]
 have h1:=laysTo_len hs hl hp c x (by omega)
 have h2:=moreL_len hs hl hp (c:=c) hx
 omega
theorem restQ_self (left s:List Int) (k:Nat):restQ left s k k=left.getD k 0:=by unfold restQ; rw [if_neg (Nat.lt_irrefl _)]
theorem restQ_end {s:List Int} {q:Nat} (h:q < left.length):restQ left s left.length q=(restL left s).getD q 0:=by unfold restQ; rw [if_pos h,restL_get h]
theorem fm_val:∀ {ls:List (List (List Int))} {x:List (List Int) × Int},fmL ls=some x->x.1 ∈ ls/\x.2=manyL x.1:=by
 intro ls
 induction ls using snoc_ind with
 | h0=>intro x h; cases h
 | h1 ls y ih =>
  intro x h
  rw [fm_snoc] at h
  unfold fmS at h
  split at h
  ·cases h; exact ⟨by simp,rfl⟩
  ·obtain ⟨h1,h2⟩:=ih h; exact ⟨List.mem_append_left _ h1,h2⟩
theorem best_mem {ls:List (List (List Int))} {x:Nat} (h:0 < ls.length):bestTo ls x ∈ ls:=by
 unfold bestTo
 split
 ·exact getD_mem _ _ h
 ·cases e:fmL (ls.take x) with
  | none =>
   have:=fm_none e
   have h2:(ls.take x).length=0:=by rw [this]; rfl
   rw [List.length_take] at h2
   omega
  | some y=>exact List.mem_of_mem_take (fm_val e).1
theorem best_at {ls:List (List (List Int))} {x:Nat} (h:x < ls.length) (hx:0 < x):fmL (ls.take x)=some (bestTo ls x,manyL (bestTo ls x)):=by
 unfold bestTo
 rw [if_neg (by omega)]
 cases e:fmL (ls.take x) with
 | none =>
  have:=fm_none e
  have h2:(ls.take x).length=0:=by rw [this]; rfl
  rw [List.length_take] at h2
  omega
 | some y =>
  have:=(fm_val e).2
  show some y=some (y.1,manyL y.1)
  rw [← this]
theorem bestTo_new {ls:List (List (List Int))} {x:Nat} (h:x < ls.length) (hb:manyL (ls.getD x []) < manyL (bestTo ls x)):bestTo ls (x + 1)=ls.getD x []:=by
 by_cases hx:x=0
 ·subst hx; exact absurd hb (Int.lt_irrefl _)
 ·have e:=best_at h (by omega)
  unfold bestTo
  rw [if_neg (by omega),take_succ _ [] h,fm_snoc,e]
  unfold fmS betterL
  simp only
  rw [if_pos (decide_eq_true hb)]; rfl
theorem bestTo_old {ls:List (List (List Int))} {x:Nat} (h:x < ls.length) (hb:¬ manyL (ls.getD x []) < manyL (bestTo ls x)):bestTo ls (x + 1)=bestTo ls x:=by
 by_cases hx:x=0
 ·subst hx
  show layS (fmL (ls.take (0 + 1)))=ls.getD 0 []
  rw [take_succ _ [] h]; rfl
 ·have e:=best_at h (by omega)
  have e2:bestTo ls (x + 1)=layS (fmL (ls.take (x + 1))):=by unfold bestTo; rw [if_neg (by omega)]
  rw [e2,take_succ _ [] h,fm_snoc,e]
  unfold fmS betterL
  simp only
  rw [if_neg (by rw [decide_eq_false hb]; exact Bool.false_ne_true)]; rfl
theorem best_end {ls:List (List (List Int))} (h:0 < ls.length):bestTo ls ls.length=layS (fmL ls):=by
 unfold bestTo; rw [if_neg (by omega),List.take_of_length_le (Nat.le_refl _)]
theorem used_ge:∀ {l:List (List Int)} {q i:Nat},(∀ i,i < l.length->0<=(l.getD i []).getD q 0)->i < l.length->(l.getD i []).getD q 0<=usedL l q:=by
 intro l
 induction l with
 | nil=>intro q i _ hi; exact absurd hi (Nat.not_lt_zero _)
 | cons s l ih =>
  intro q i h hi
  have h0:0<=s.getD q 0:=h 0 (Nat.succ_pos _)
  have h1:∀ i,i < l.length->0<=(l.getD i []).getD q 0:=fun i hi=>h (i + 1) (Nat.succ_lt_succ hi)
  have h2:=usedL_pos h1
  cases i with
  | zero=>show s.getD q 0<=s.getD q 0 + usedL l q; omega
  | succ i =>
   have:=ih h1 (Nat.lt_of_succ_lt_succ hi)
   show (l.getD i []).getD q 0<=s.getD q 0 + usedL l q
   omega
theorem okLay_of (hs:Sound f) {w:Int} {l:List (List Int)} (h:LayF f w l):okLay l:=by
 obtain ⟨h1,h2,h3⟩:=(layF_iff hs).1 h
 have hc:=hs.columns
 have hst:=hs.strips
 refine ⟨by omega,fun i => ?_⟩
 by_cases hi:i < f.columns.length
 ·obtain ⟨a,b,_⟩:=h2 i hi
  refine ⟨by omega,fun q => ?_⟩
  by_cases hq:q < f.strips.length
  ·have g1:=b q hq
   have g2:=used_ge (l:=l) (q:=q) (i:=i) (fun j hj=>(h2 j (by omega)).2.1 q hq) (by omega)
   have g3:=h3 q hq
   have g4:=hs.strip q hq
   omega
  ·rw [getD_ge (l.getD i []) _ (by omega)]; exact ⟨by decide,by decide⟩
 ·rw [getD_ge l _ (by omega)]
  exact ⟨Nat.zero_le _,fun q=>⟨by simp,by simp⟩⟩
theorem laysA_ok (hs:Sound f) {l:List (List Int)} (h:l ∈ laysA f):okLay l:=by
 unfold laysA at h
 rw [laysC_all hs] at h
 exact okLay_of hs (w:=0) (mem_laysR.1 h)
theorem laysA_whole (hs:Sound f):wholeP f 0=fmL (laysA f):=whole_lays hs
theorem prodL_snoc (l:List Int) (a:Int):prodL (l ++ [a])=prodL l * (a.toNat + 1):=by
 induction l with
 | nil=>show (a.toNat + 1) * 1=1 * (a.toNat + 1); omega
 | cons x l ih=>show (x.toNat + 1) * prodL (l ++ [a])=(x.toNat + 1) * prodL l * (a.toNat + 1); rw [ih,Nat.mul_assoc]
theorem prod_stock (hs:Sound f):∀ n,n<=f.strips.length->((prodL (stockTo f n):Nat):Int)=prodF f n:=by
 intro n
 induction n with
 | zero=>intro _; rfl
 | succ n ih =>
  intro h
  rw [stock_succ,prodL_snoc,prod_succ,← ih (by omega)]
  have:=hs.strip n (by omega)
  have e:(((stp f n).many.toNat:Nat):Int)=(stp f n).many:=by omega
  rw [Int.natCast_mul,Int.natCast_add,e]; rfl
theorem lockR_lay (h:okFrm f=true) (h2:stripsE f=0):LayF f 0 (lockR f)/\manyL (lockR f)=stripsN f:=by
 unfold stripsE at h2
 rw [if_pos h] at h2
 unfold lockR stripsN
 rw [if_pos h,if_pos h]
 cases e:wholeP f 0 with
 | none=>rw [e] at h2; exact absurd h2 (by decide)
 | some x =>
  obtain ⟨h3,h4,_⟩:=whole_some e
  exact ⟨h3,h4.symm⟩
end Go.Sh
namespace Go.En
open Go Go.Ab Go.Sh
def aLays (l:List (List (List Int))):AV := .sl 1 l.length (fun i=>[aIntss (l.getD i [])])
end Go.En
namespace Go.Ab
open Go Go.RowKit Go.Proofs Go.Sh Go.En
abbrev rowS (l:List (List Int)):OB := .vec 27 1 l.length (fun i=>[aInts (l.getD i [])])
abbrev rowL (l:List (List (List Int))):OB := .vec 24 1 l.length (fun i=>[aIntss (l.getD i [])])
def s134 (left first:List Int):CallSpec:={ args:=[aInts left,aInts first],res:=aIntss (setsFrom left first),pre:=first.length<=left.length/\left.length<=3 /\ ∀ q,q < left.length->0<=left.getD q 0/\left.getD q 0<=4 }
def h134 (left first:List Int):Hint:={ X:=Nat,M:=fun n=>[(5,.vec 5000),(6,iv n)],H:=fun n=>[(5000,rowS (setsTo left first n))],I:=fun n=>n<=(left.getD first.length 0).toNat + 1,mu:=fun n=>(left.getD first.length 0).toNat + 1 - n,x0:=(0:Nat),nx:=fun n=>n + 1 }
def c134 (left first:List Int) (n:Nat):CallSpec:=s134 left (first ++ [(n:Int)])
def s105 (f:Frm) (c:Nat) (left:List Int):CallSpec:={ args:=[vFrm f,iv c,aInts left],res:=aLays (laysC f (f.columns.length - c) left),pre:=Sound f/\c<=f.columns.length/\GoodLeft f left/\prodL left<=30 }
def h105a (f:Frm) (c:Nat) (left:List Int):Hint:={ X:=Nat,M:=fun i=>[(7,.vec 5000),(9,iv i)],H:=fun i=>[(5000,rowL (laysTo f c left i))],I:=fun i=>i<=(setsP left).length,mu:=fun i=>(setsP left).length - i,x0:=(0:Nat),nx:=fun i=>i + 1 }
def h105b (f:Frm) (c:Nat) (left:List Int) (x:Nat):Hint:={ X:=Nat,M:=fun k=>[(10,.vec 5001),(11,iv k)],H:=fun k=>[(5001,.vec 3 1 left.length (fun q=>[iv (restQ left (setI left x) k q)]))],I:=fun k=>k<=left.length,mu:=fun k=>left.length - k,x0:=(0:Nat),nx:=fun k=>k + 1 }
def h105c (f:Frm) (c:Nat) (left:List Int) (x:Nat):Hint:={ X:=Nat,M:=fun k=>[(7,.vec 5002),(13,iv k)],H:=fun k=>[(5002,rowL (laysIn f c left x k))],I:=fun k=>k<=(moreL f c left x).length,mu:=fun k=>(moreL f c left x).length - k,x0:=(0:Nat),nx:=fun k=>k + 1 }
def c105z:CallSpec:={ args:=[aIntss []],res := .any }
def c105s (f:Frm) (c:Nat) (left:List Int):CallSpec:=s134 left []
def c105p (f:Frm) (c:Nat) (left:List Int) (x:Nat):CallSpec:=s23 f (setI left x)
def c105r (f:Frm) (c:Nat) (left:List Int) (x:Nat):CallSpec:=s105 f (c + 1) (restL left (setI left x))
def s78 (f:Frm):CallSpec:={ args:=[vFrm f],res := .tup [aIntss (lockR f),iv (stripsE f)],pre:=fitsF f/\(okFrm f=true->prodF f f.strips.length<=30) }
def h78 (f:Frm):Hint:={ X:=Nat,M:=fun i=>[(6,aIntss (bestTo (laysA f) i)),(7,iv i)],I:=fun i=>i<=(laysA f).length,mu:=fun i=>(laysA f).length - i,x0:=(0:Nat),nx:=fun i=>i + 1 }
def c78 (f:Frm):CallSpec:=s105 f 0 (stockTo f f.strips.length)
def c78a (f:Frm) (x:Nat):CallSpec:=s61 ((laysA f).getD x [])
def c78b (f:Frm) (x:Nat):CallSpec:=s61 (bestTo (laysA f) x)
def s122 (f:Frm):CallSpec:={ args:=[vFrm f],res:=bv (decide (stripsE f=0)),pre:=fitsF f/\(okFrm f=true->prodF f f.strips.length<=30) }
def s77 (f:Frm):CallSpec:={ args:=[vFrm f],res := .tup [iv (stripsN f),iv (stripsE f)],pre:=fitsF f/\(okFrm f=true->prodF f f.strips.length<=30) }
def c77 (f:Frm):CallSpec:=s61 (lockR f)
end Go.Ab
namespace Go.Ab
open Go Go.RowKit Go.Proofs Go.Sh Go.En
theorem w134 (left:List Int) (first:List Int)
  (o0:(first.length<=left.length/\left.length<=3 /\ ∀ (q:Nat),q < left.length->0<=left.getD q 0/\left.getD q 0<=4)->decide ((↑(first.length):Int)=(↑(left.length):Int))=true->1=(setsFrom left first).length)
  (o1:(first.length<=left.length/\left.length<=3 /\ ∀ (q:Nat),q < left.length->0<=left.getD q 0/\left.getD q 0<=4)->decide ((↑(first.length):Int)=(↑(left.length):Int))=true -> ∀ (i1:Nat),i1 < (setsFrom left first).length->List.getD [[AV.sl 1 first.length fun (i:Nat)=>[iv (first.getD i 0)]]] i1 (TI.za ti27) = [aInts ((setsFrom left first).getD i1 [])])
  (o2:(first.length<=left.length/\left.length<=3 /\ ∀ (q:Nat),q < left.length->0<=left.getD q 0/\left.getD q 0<=4)->decide ((↑(first.length):Int)=(↑(left.length):Int))=false->0=(↑0:Int))
  (o3:(first.length<=left.length/\left.length<=3 /\ ∀ (q:Nat),q < left.length->0<=left.getD q 0/\left.getD q 0<=4)->decide ((↑(first.length):Int)=(↑(left.length):Int))=false->(setsTo left first 0).length=0)
  (o4:(first.length<=left.length/\left.length<=3 /\ ∀ (q:Nat),q < left.length->0<=left.getD q 0/\left.getD q 0<=4)->decide ((↑(first.length):Int)=(↑(left.length):Int))=false->0<=(left.getD first.length 0).toNat + 1)
  (o5:(first.length<=left.length/\left.length<=3 /\ ∀ (q:Nat),q < left.length->0<=left.getD q 0/\left.getD q 0<=4)->decide ((↑(first.length):Int)=(↑(left.length):Int))=false -> ∀ (x3:Nat),x3<=(left.getD first.length 0).toNat + 1->0<=(↑(first.length):Int))
  (o6:(first.length<=left.length/\left.length<=3 /\ ∀ (q:Nat),q < left.length->0<=left.getD q 0/\left.getD q 0<=4)->decide ((↑(first.length):Int)=(↑(left.length):Int))=false -> ∀ (x3:Nat),x3<=(left.getD first.length 0).toNat + 1->(↑(first.length):Int) < (↑(left.length):Int))
  (o7:(first.length<=left.length/\left.length<=3 /\ ∀ (q:Nat),q < left.length->0<=left.getD q 0/\left.getD q 0<=4)->decide ((↑(first.length):Int)=(↑(left.length):Int))=false -> ∀ (x3:Nat),x3<=(left.getD first.length 0).toNat + 1->decide ((x3:Int)<=left.getD first.length 0)=true->0 + first.length<=65536)
  (o8:(first.length<=left.length/\left.length<=3 /\ ∀ (q:Nat),q < left.length->0<=left.getD q 0/\left.getD q 0<=4)->decide ((↑(first.length):Int)=(↑(left.length):Int))=false -> ∀ (x3:Nat),x3<=(left.getD first.length 0).toNat + 1->decide ((x3:Int)<=left.getD first.length 0)=true->0 + first.length + 1<=65536)
  (o9:(first.length<=left.length/\left.length<=3 /\ ∀ (q:Nat),q < left.length->0<=left.getD q 0/\left.getD q 0<=4)->decide ((↑(first.length):Int)=(↑(left.length):Int))=false -> ∀ (x3:Nat),x3<=(left.getD first.length 0).toNat + 1->decide ((x3:Int)<=left.getD first.length 0)=true->0 + first.length + 1=(first ++ [(x3:Int)]).length)
  (o10:(first.length<=left.length/\left.length<=3 /\ ∀ (q:Nat),q < left.length->0<=left.getD q 0/\left.getD q 0<=4)->decide ((↑(first.length):Int)=(↑(left.length):Int))=false -> ∀ (x3:Nat),x3<=(left.getD first.length 0).toNat + 1->decide ((x3:Int)<=left.getD first.length 0)=true -> ∀ (i5:Nat),i5 < (first ++ [(x3:Int)]).length->catF (0 + first.length) (fun (i:Nat)=>[iv (first.getD i 0)]) (fun (j:Nat)=>List.getD [[iv (x3:Int)]] j (TI.za ti3)) i5 = [iv ((first ++ [(x3:Int)]).getD i5 0)])
  (o11:(first.length<=left.length/\left.length<=3 /\ ∀ (q:Nat),q < left.length->0<=left.getD q 0/\left.getD q 0<=4)->decide ((↑(first.length):Int)=(↑(left.length):Int))=false -> ∀ (x3:Nat),x3<=(left.getD first.length 0).toNat + 1->decide ((x3:Int)<=left.getD first.length 0)=true->Triple Try.prog 134 (c134 left first x3))
  (o12:(first.length<=left.length/\left.length<=3 /\ ∀ (q:Nat),q < left.length->0<=left.getD q 0/\left.getD q 0<=4)->decide ((↑(first.length):Int)=(↑(left.length):Int))=false -> ∀ (x3:Nat),x3<=(left.getD first.length 0).toNat + 1->decide ((x3:Int)<=left.getD first.length 0)=true->(first ++ [(x3:Int)]).length<=left.length)
  (o13:(first.length<=left.length/\left.length<=3 /\ ∀ (q:Nat),q < left.length->0<=left.getD q 0/\left.getD q 0<=4)->decide ((↑(first.length):Int)=(↑(left.length):Int))=false -> ∀ (x3:Nat),x3<=(left.getD first.length 0).toNat + 1->decide ((x3:Int)<=left.getD first.length 0)=true->left.length<=3)
  (o14:(first.length<=left.length/\left.length<=3 /\ ∀ (q:Nat),q < left.length->0<=left.getD q 0/\left.getD q 0<=4)->decide ((↑(first.length):Int)=(↑(left.length):Int))=false -> ∀ (x3:Nat),x3<=(left.getD first.length 0).toNat + 1->decide ((x3:Int)<=left.getD first.length 0)=true -> ∀ (i7:Nat),i7 < left.length->0<=left.getD i7 0)
  (o15:(first.length<=left.length/\left.length<=3 /\ ∀ (q:Nat),q < left.length->0<=left.getD q 0/\left.getD q 0<=4)->decide ((↑(first.length):Int)=(↑(left.length):Int))=false -> ∀ (x3:Nat),x3<=(left.getD first.length 0).toNat + 1->decide ((x3:Int)<=left.getD first.length 0)=true -> ∀ (i7:Nat),i7 < left.length->left.getD i7 0<=4)
  (o16:(first.length<=left.length/\left.length<=3 /\ ∀ (q:Nat),q < left.length->0<=left.getD q 0/\left.getD q 0<=4)->decide ((↑(first.length):Int)=(↑(left.length):Int))=false -> ∀ (x3:Nat),x3<=(left.getD first.length 0).toNat + 1->decide ((x3:Int)<=left.getD first.length 0)=true->(setsTo left first x3).length + (setsFrom left (first ++ [(x3:Int)])).length<=65536)
  (o17:(first.length<=left.length/\left.length<=3 /\ ∀ (q:Nat),q < left.length->0<=left.getD q 0/\left.getD q 0<=4)->decide ((↑(first.length):Int)=(↑(left.length):Int))=false -> ∀ (x3:Nat),x3<=(left.getD first.length 0).toNat + 1->decide ((x3:Int)<=left.getD first.length 0)=true->inI ((x3:Int) + 1))
  (o18:(first.length<=left.length/\left.length<=3 /\ ∀ (q:Nat),q < left.length->0<=left.getD q 0/\left.getD q 0<=4)->decide ((↑(first.length):Int)=(↑(left.length):Int))=false -> ∀ (x3:Nat),x3<=(left.getD first.length 0).toNat + 1->decide ((x3:Int)<=left.getD first.length 0)=true->(x3:Int) + 1=(↑(x3 + 1):Int))
  (o19:(first.length<=left.length/\left.length<=3 /\ ∀ (q:Nat),q < left.length->0<=left.getD q 0/\left.getD q 0<=4)->decide ((↑(first.length):Int)=(↑(left.length):Int))=false -> ∀ (x3:Nat),x3<=(left.getD first.length 0).toNat + 1->decide ((x3:Int)<=left.getD first.length 0)=true->(setsTo left first x3).length + (setsFrom left (first ++ [(x3:Int)])).length=(setsTo left first (x3 + 1)).length)
  (o20:(first.length<=left.length/\left.length<=3 /\ ∀ (q:Nat),q < left.length->0<=left.getD q 0/\left.getD q 0<=4)->decide ((↑(first.length):Int)=(↑(left.length):Int))=false -> ∀ (x3:Nat),x3<=(left.getD first.length 0).toNat + 1->decide ((x3:Int)<=left.getD first.length 0)=true -> ∀ (i10:Nat),i10 < (setsTo left first x3).length + (setsFrom left (first ++ [(x3:Int)])).length->catF (setsTo left first x3).length (fun (i:Nat)=>[aInts ((setsTo left first x3).getD i [])]) (fun (i:Nat)=>[aInts ((setsFrom left (first ++ [(x3:Int)])).getD i [])]) i10 = [aInts ((setsTo left first (x3 + 1)).getD i10 [])])
  (o21:(first.length<=left.length/\left.length<=3 /\ ∀ (q:Nat),q < left.length->0<=left.getD q 0/\left.getD q 0<=4)->decide ((↑(first.length):Int)=(↑(left.length):Int))=false -> ∀ (x3:Nat),x3<=(left.getD first.length 0).toNat + 1->decide ((x3:Int)<=left.getD first.length 0)=true->x3 + 1<=(left.getD first.length 0).toNat + 1)
  (o22:(first.length<=left.length/\left.length<=3 /\ ∀ (q:Nat),q < left.length->0<=left.getD q 0/\left.getD q 0<=4)->decide ((↑(first.length):Int)=(↑(left.length):Int))=false -> ∀ (x3:Nat),x3<=(left.getD first.length 0).toNat + 1->decide ((x3:Int)<=left.getD first.length 0)=true->(left.getD first.length 0).toNat + 1 - (x3 + 1) < (left.getD first.length 0).toNat + 1 - x3)
  (o23:(first.length<=left.length/\left.length<=3 /\ ∀ (q:Nat),q < left.length->0<=left.getD q 0/\left.getD q 0<=4)->decide ((↑(first.length):Int)=(↑(left.length):Int))=false -> ∀ (x3:Nat),x3<=(left.getD first.length 0).toNat + 1->decide ((x3:Int)<=left.getD first.length 0)=false->(setsTo left first x3).length=(setsFrom left first).length)
  (o24:(first.length<=left.length/\left.length<=3 /\ ∀ (q:Nat),q < left.length->0<=left.getD q 0/\left.getD q 0<=4)->decide ((↑(first.length):Int)=(↑(left.length):Int))=false -> ∀ (x3:Nat),x3<=(left.getD first.length 0).toNat + 1->decide ((x3:Int)<=left.getD first.length 0)=false -> ∀ (i12:Nat),i12 < (setsFrom left first).length -> [aInts ((setsTo left first x3).getD i12 [])] = [aInts ((setsFrom left first).getD i12 [])]) :
  Triple Try.prog 134 (s134 left first):=by
 refine triple_of Try.func134 rfl Try.call134 T0_ok _ rfl rfl rfl rfl (Nat.le_of_ble_eq_true (by kernel_rfl)) (fun _ _ _ _ h=>h) ?_
 intro hpre C hC _ hE
 obtain ⟨P,w0,E0,av,hA,ro,df⟩:=C
 obtain ⟨rfl,rfl,rfl⟩:=hC
 refine swp_seq ?_
 refine zR [0,1] [] (Ak 1 tv) ?_
 refine swp_seq ?_
 refine swp_seq ?_
 refine zR [0,1,11] [] (Ak 5 tv) ?_
 refine zI (decide ((↑(first.length):Int)=(↑(left.length):Int))) (fun y0 => ?_) (fun y0 => ?_)
 ·refine swp_seq ?_
  refine zR [4] [56] (Ak 3 tv) ?_
  refine swp_ret ?_
  exact zT [56] (An (Ak 1 tv) (An (An (zr 1) (An (o0 hpre y0) (fun (i1:Nat)=>(fun (y2:i1 < (setsFrom left first).length)=>(o1 hpre y0 i1 y2))))) (An (zr true) (An (zr true) (zr true)))))
 ·refine swp_skip ?_
  refine swp_seq ?_
  refine zR [0,1,5] [] (Ak 1 tv) ?_
  refine swp_seq ?_
  refine swp_seq ?_
  refine zR [0,1,5,6] [] (Ak 1 tv) ?_
  refine swp_block ?_
  refine zL (Hint.ann (h134 left first) [(0,aInts left),(1,aInts first)] [] 10064) (zE hE [] [(5000,.nil)] [0,1] [] (An (An (An (zr (aInts left)) (zr true)) (An (An (zr (aInts first)) (zr true)) (An (zr (some Src.nil)) (An (An (ci (o2 hpre y0)) (zr nilN)) tv)))) (An (An (o3 hpre y0) tv) (An (zr true) (zr true))))) (o4 hpre y0) (fun (x3:Nat) hx3 => ?_)
  refine swp_seq ?_
  refine swp_seq ?_
  refine zR [0,1,5,6,20] [5000] (Ak 4 (An (An (o5 hpre y0 x3 hx3) (o6 hpre y0 x3 hx3)) (Ak 2 tv))) ?_
  refine zI (decide ((x3:Int)<=left.getD first.length 0)) (fun y4 => ?_) (fun y4 => ?_)
  ·refine swp_skip ?_
   refine swp_seq ?_
   refine swp_block ?_
   refine zC ([(8,CallSpec.eq (c134 left first x3) [true,false])]) [0,1,5,6] [10192] (Ak 4 (An (o7 hpre y0 x3 hx3 y4) (Ak 2 (An (o8 hpre y0 x3 hx3 y4) (An (An (An (zr (aInts left)) (An (An (zr 1) (An (o9 hpre y0 x3 hx3 y4) (fun (i5:Nat)=>(fun (y6:i5 < (first ++ [(x3:Int)]).length)=>(o10 hpre y0 x3 hx3 y4 i5 y6))))) tv)) (An (o11 hpre y0 x3 hx3 y4) (An (An (o12 hpre y0 x3 hx3 y4) (An (o13 hpre y0 x3 hx3 y4) (fun (i7:Nat)=>(fun (y8:i7 < left.length)=>(An (o14 hpre y0 x3 hx3 y4 i7 y8) (o15 hpre y0 x3 hx3 y4 i7 y8)))))) (Ak 1 (fun (i9:Env)=>tv))))) (An (o16 hpre y0 x3 hx3 y4) (Ak 1 tv))))))) ?_
   refine zR [0,1,5,6] [10192] (Ak 1 (An (o17 hpre y0 x3 hx3 y4) (Ak 1 tv))) ?_
   exact zn (zE hE [] [(5000,.same 10192)] [0,1] [] (An (An (An (zr (aInts left)) (zr true)) (An (An (zr (aInts first)) (zr true)) (An (zr (some (Src.same 10192))) (An (An (ci (o18 hpre y0 x3 hx3 y4)) (zr nilN)) tv)))) (An (An (An (zr 27) (An (zr 1) (An (o19 hpre y0 x3 hx3 y4) (fun (i10:Nat)=>(fun (y11:i10 < (setsTo left first x3).length + (setsFrom left (first ++ [(x3:Int)])).length)=>(o20 hpre y0 x3 hx3 y4 i10 y11)))))) tv) (An (zr true) (zr true))))) (o21 hpre y0 x3 hx3 y4) (o22 hpre y0 x3 hx3 y4)
  ·refine swp_exit ?_
   refine swp_seq ?_
   refine zR [4] [5000] (Ak 2 tv) ?_
   refine swp_ret ?_
   exact zT [5000] (An (Ak 1 tv) (An (An (zr 1) (An (o23 hpre y0 x3 hx3 y4) (fun (i12:Nat)=>(fun (y13:i12 < (setsFrom left first).length)=>(o24 hpre y0 x3 hx3 y4 i12 y13))))) (An (zr true) (An (zr true) (zr true)))))
theorem t134 (left first:List Int):Triple Try.prog 134 (s134 left first):=by
 have key:∀ (k:Nat) (first:List Int),left.length - first.length<=k->Triple Try.prog 134 (s134 left first):=by
  intro k
  induction k with
  | zero =>
   intro first hk
   apply w134
   all_goals (rintro ⟨h1,h2,h3⟩; have he:first.length=left.length:=by omega)
   case o0=>intro _; rw [setsFrom_base he]; rfl
   case o1 =>
    intro _ i hi
    rw [setsFrom_base he] at hi ⊢
    have:i=0:=by simpa using hi
    subst this; rfl
   all_goals (intro h; exact absurd (by omega) (of_decide_eq_false h))
  | succ k ih =>
   intro first hk
   apply w134
   all_goals (rintro ⟨h1,h2,h3⟩)
   case o0=>intro h; rw [setsFrom_base (by have:=of_decide_eq_true h; omega)]; rfl
   case o1 =>
    intro h i hi
    rw [setsFrom_base (by have:=of_decide_eq_true h; omega)] at hi ⊢
    have:i=0:=by simpa using hi
    subst this; rfl
   all_goals (intro h; have he:first.length < left.length:=(by have:=of_decide_eq_false h; omega))
   case o2 | o3=>rfl
   case o4=>omega
   all_goals (have hb:=fun q hq=>(h3 q hq).2; have hlk:=h3 _ he)
   all_goals (intro x hx)
   case o5 | o6=>omega
   all_goals (intro hl; simp only [decide_eq_true_eq,decide_eq_false_iff_not] at hl)
   case o9=>rw [List.length_append,List.length_singleton]; omega
   case o10=>intro i hi; rw [List.length_append,List.length_singleton] at hi; exact catF_one first _ 0 (fun z=>[iv z]) (Nat.zero_add _) (fun _ _=>rfl) rfl hi
   case o11=>exact ih _ (by rw [List.length_append,List.length_singleton]; omega)
   case o12=>rw [List.length_append,List.length_singleton]; omega
   case o14=>intro q hq; exact (h3 q hq).1
   case o15=>intro q hq; exact hb q hq
   case o16=>have a:=setsTo_len h2 hb first x; have b:=setsFrom_len h2 hb (first ++ [(x:Int)]); omega
   case o19=>rw [setsTo_succ,List.length_append]
   case o20=>intro i hi; rw [setsTo_succ]; exact catF_eq _ _ [] (fun z=>[aInts z]) rfl (fun _ _=>rfl) (fun _ _=>rfl) hi
   case o23=>rw [show x=(left.getD first.length 0).toNat + 1 by omega,setsTo_end he]
   case o24=>intro i hi; rw [show x=(left.getD first.length 0).toNat + 1 by omega,setsTo_end he]
   all_goals (first | omega | (simp only [inI]; omega))
 exact key _ first (Nat.le_refl _)
theorem w105 (f:Frm) (c:Nat) (left:List Int)
  (o0:Sound f/\c<=f.columns.length/\GoodLeft f left/\prodL left<=30->decide ((c:Int)=(↑(f.columns.length):Int))=true -> ∀ (i1:Env) (i2:Bool) (i3:Value),Rel i1 i2 nilv i3->Rel i1 i2 (aIntss []) i3)
  (o1:Sound f/\c<=f.columns.length/\GoodLeft f left/\prodL left<=30->decide ((c:Int)=(↑(f.columns.length):Int))=true->1=(laysC f (f.columns.length - c) left).length)
  (o2:Sound f/\c<=f.columns.length/\GoodLeft f left/\prodL left<=30->decide ((c:Int)=(↑(f.columns.length):Int))=true -> ∀ (i5:Nat),i5 < (laysC f (f.columns.length - c) left).length->List.getD [[AV.sl 1 0 fun (i:Nat)=>[aInts (List.getD [] i [])]]] i5 (TI.za ti24) = [aIntss ((laysC f (f.columns.length - c) left).getD i5 [])])
  (o3:Sound f/\c<=f.columns.length/\GoodLeft f left/\prodL left<=30->decide ((c:Int)=(↑(f.columns.length):Int))=false->0<=left.length)
  (o4:Sound f/\c<=f.columns.length/\GoodLeft f left/\prodL left<=30->decide ((c:Int)=(↑(f.columns.length):Int))=false->left.length<=3)
  (o5:Sound f/\c<=f.columns.length/\GoodLeft f left/\prodL left<=30->decide ((c:Int)=(↑(f.columns.length):Int))=false -> ∀ (i7:Nat),i7 < left.length->0<=left.getD i7 0)
  (o6:Sound f/\c<=f.columns.length/\GoodLeft f left/\prodL left<=30->decide ((c:Int)=(↑(f.columns.length):Int))=false -> ∀ (i7:Nat),i7 < left.length->left.getD i7 0<=4)
  (o7:Sound f/\c<=f.columns.length/\GoodLeft f left/\prodL left<=30->decide ((c:Int)=(↑(f.columns.length):Int))=false->0=(↑0:Int))
  (o8:Sound f/\c<=f.columns.length/\GoodLeft f left/\prodL left<=30->decide ((c:Int)=(↑(f.columns.length):Int))=false->(laysTo f c left 0).length=0)
  (o9:Sound f/\c<=f.columns.length/\GoodLeft f left/\prodL left<=30->decide ((c:Int)=(↑(f.columns.length):Int))=false->0<=(setsP left).length)
  (o10:Sound f/\c<=f.columns.length/\GoodLeft f left/\prodL left<=30->decide ((c:Int)=(↑(f.columns.length):Int))=false -> ∀ (x10:Nat),x10<=(setsP left).length->decide ((x10:Int) < (↑((setsFrom left []).length):Int))=true->0<=(x10:Int))
  (o11:Sound f/\c<=f.columns.length/\GoodLeft f left/\prodL left<=30->decide ((c:Int)=(↑(f.columns.length):Int))=false -> ∀ (x10:Nat),x10<=(setsP left).length->decide ((x10:Int) < (↑((setsFrom left []).length):Int))=true->(x10:Int) < (↑((setsFrom left []).length):Int))
  (o12:Sound f/\c<=f.columns.length/\GoodLeft f left/\prodL left<=30->decide ((c:Int)=(↑(f.columns.length):Int))=false -> ∀ (x10:Nat),x10<=(setsP left).length->decide ((x10:Int) < (↑((setsFrom left []).length):Int))=true->((setsFrom left []).getD x10 []).length=(setI left x10).length)
  (o13:Sound f/\c<=f.columns.length/\GoodLeft f left/\prodL left<=30->decide ((c:Int)=(↑(f.columns.length):Int))=false -> ∀ (x10:Nat),x10<=(setsP left).length->decide ((x10:Int) < (↑((setsFrom left []).length):Int))=true -> ∀ (i12:Nat),i12 < (setI left x10).length -> [iv (((setsFrom left []).getD x10 []).getD i12 0)] = [iv ((setI left x10).getD i12 0)])
  (o14:Sound f/\c<=f.columns.length/\GoodLeft f left/\prodL left<=30->decide ((c:Int)=(↑(f.columns.length):Int))=false -> ∀ (x10:Nat),x10<=(setsP left).length->decide ((x10:Int) < (↑((setsFrom left []).length):Int))=true->isSet f (setI left x10)=true)
  (o15:Sound f/\c<=f.columns.length/\GoodLeft f left/\prodL left<=30->decide ((c:Int)=(↑(f.columns.length):Int))=false -> ∀ (x10:Nat),x10<=(setsP left).length->decide ((x10:Int) < (↑((setsFrom left []).length):Int))=true->c < f.columns.length)
  (o16:Sound f/\c<=f.columns.length/\GoodLeft f left/\prodL left<=30->decide ((c:Int)=(↑(f.columns.length):Int))=false -> ∀ (x10:Nat),x10<=(setsP left).length->decide ((x10:Int) < (↑((setsFrom left []).length):Int))=true -> -1000<=pointsP f (setI left x10))
  (o17:Sound f/\c<=f.columns.length/\GoodLeft f left/\prodL left<=30->decide ((c:Int)=(↑(f.columns.length):Int))=false -> ∀ (x10:Nat),x10<=(setsP left).length->decide ((x10:Int) < (↑((setsFrom left []).length):Int))=true->pointsP f (setI left x10)<=1000)
  (o18:Sound f/\c<=f.columns.length/\GoodLeft f left/\prodL left<=30->decide ((c:Int)=(↑(f.columns.length):Int))=false -> ∀ (x10:Nat),x10<=(setsP left).length->decide ((x10:Int) < (↑((setsFrom left []).length):Int))=true->(!sureP f c (pointsP f (setI left x10)))=true->inI ((x10:Int) + 1))
  (o19:Sound f/\c<=f.columns.length/\GoodLeft f left/\prodL left<=30->decide ((c:Int)=(↑(f.columns.length):Int))=false -> ∀ (x10:Nat),x10<=(setsP left).length->decide ((x10:Int) < (↑((setsFrom left []).length):Int))=true->(!sureP f c (pointsP f (setI left x10)))=true->(x10:Int) + 1=(↑(x10 + 1):Int))
  (o20:Sound f/\c<=f.columns.length/\GoodLeft f left/\prodL left<=30->decide ((c:Int)=(↑(f.columns.length):Int))=false -> ∀ (x10:Nat),x10<=(setsP left).length->decide ((x10:Int) < (↑((setsFrom left []).length):Int))=true->(!sureP f c (pointsP f (setI left x10)))=true->(laysTo f c left x10).length=(laysTo f c left (x10 + 1)).length)
  (o21:Sound f/\c<=f.columns.length/\GoodLeft f left/\prodL left<=30->decide ((c:Int)=(↑(f.columns.length):Int))=false -> ∀ (x10:Nat),x10<=(setsP left).length->decide ((x10:Int) < (↑((setsFrom left []).length):Int))=true->(!sureP f c (pointsP f (setI left x10)))=true -> ∀ (i17:Nat),i17 < (laysTo f c left x10).length -> [aIntss ((laysTo f c left x10).getD i17 [])] = [aIntss ((laysTo f c left (x10 + 1)).getD i17 [])])
  (o22:Sound f/\c<=f.columns.length/\GoodLeft f left/\prodL left<=30->decide ((c:Int)=(↑(f.columns.length):Int))=false -> ∀ (x10:Nat),x10<=(setsP left).length->decide ((x10:Int) < (↑((setsFrom left []).length):Int))=true->(!sureP f c (pointsP f (setI left x10)))=true->x10 + 1<=(setsP left).length)
  (o23:Sound f/\c<=f.columns.length/\GoodLeft f left/\prodL left<=30->decide ((c:Int)=(↑(f.columns.length):Int))=false -> ∀ (x10:Nat),x10<=(setsP left).length->decide ((x10:Int) < (↑((setsFrom left []).length):Int))=true->(!sureP f c (pointsP f (setI left x10)))=true->(setsP left).length - (x10 + 1) < (setsP left).length - x10)
  (o24:Sound f/\c<=f.columns.length/\GoodLeft f left/\prodL left<=30->decide ((c:Int)=(↑(f.columns.length):Int))=false -> ∀ (x10:Nat),x10<=(setsP left).length->decide ((x10:Int) < (↑((setsFrom left []).length):Int))=true->(!sureP f c (pointsP f (setI left x10)))=false->0 + left.length<=65536)
  (o25:Sound f/\c<=f.columns.length/\GoodLeft f left/\prodL left<=30->decide ((c:Int)=(↑(f.columns.length):Int))=false -> ∀ (x10:Nat),x10<=(setsP left).length->decide ((x10:Int) < (↑((setsFrom left []).length):Int))=true->(!sureP f c (pointsP f (setI left x10)))=false->0=(↑0:Int))
  (o26:Sound f/\c<=f.columns.length/\GoodLeft f left/\prodL left<=30->decide ((c:Int)=(↑(f.columns.length):Int))=false -> ∀ (x10:Nat),x10<=(setsP left).length->decide ((x10:Int) < (↑((setsFrom left []).length):Int))=true->(!sureP f c (pointsP f (setI left x10)))=false->0 + left.length=left.length)
  (o27:Sound f/\c<=f.columns.length/\GoodLeft f left/\prodL left<=30->decide ((c:Int)=(↑(f.columns.length):Int))=false -> ∀ (x10:Nat),x10<=(setsP left).length->decide ((x10:Int) < (↑((setsFrom left []).length):Int))=true->(!sureP f c (pointsP f (setI left x10)))=false -> ∀ (i20:Nat),i20 < 0 + left.length -> [iv (left.getD i20 0)] = [iv (restQ left (setI left x10) 0 i20)])
  (o28:Sound f/\c<=f.columns.length/\GoodLeft f left/\prodL left<=30->decide ((c:Int)=(↑(f.columns.length):Int))=false -> ∀ (x10:Nat),x10<=(setsP left).length->decide ((x10:Int) < (↑((setsFrom left []).length):Int))=true->(!sureP f c (pointsP f (setI left x10)))=false->0<=left.length)
  (o29:Sound f/\c<=f.columns.length/\GoodLeft f left/\prodL left<=30->decide ((c:Int)=(↑(f.columns.length):Int))=false -> ∀ (x10:Nat),x10<=(setsP left).length->decide ((x10:Int) < (↑((setsFrom left []).length):Int))=true->(!sureP f c (pointsP f (setI left x10)))=false -> ∀ (x19:Nat),x19<=left.length->decide ((x19:Int) < (↑(left.length):Int))=true->0<=(x19:Int))
  (o30:Sound f/\c<=f.columns.length/\GoodLeft f left/\prodL left<=30->decide ((c:Int)=(↑(f.columns.length):Int))=false -> ∀ (x10:Nat),x10<=(setsP left).length->decide ((x10:Int) < (↑((setsFrom left []).length):Int))=true->(!sureP f c (pointsP f (setI left x10)))=false -> ∀ (x19:Nat),x19<=left.length->decide ((x19:Int) < (↑(left.length):Int))=true->(x19:Int) < (↑(left.length):Int))
  (o31:Sound f/\c<=f.columns.length/\GoodLeft f left/\prodL left<=30->decide ((c:Int)=(↑(f.columns.length):Int))=false -> ∀ (x10:Nat),x10<=(setsP left).length->decide ((x10:Int) < (↑((setsFrom left []).length):Int))=true->(!sureP f c (pointsP f (setI left x10)))=false -> ∀ (x19:Nat),x19<=left.length->decide ((x19:Int) < (↑(left.length):Int))=true->x19 < left.length)
  (o32:Sound f/\c<=f.columns.length/\GoodLeft f left/\prodL left<=30->decide ((c:Int)=(↑(f.columns.length):Int))=false -> ∀ (x10:Nat),x10<=(setsP left).length->decide ((x10:Int) < (↑((setsFrom left []).length):Int))=true->(!sureP f c (pointsP f (setI left x10)))=false -> ∀ (x19:Nat),x19<=left.length->decide ((x19:Int) < (↑(left.length):Int))=true->0<=(x10:Int))
  (o33:Sound f/\c<=f.columns.length/\GoodLeft f left/\prodL left<=30->decide ((c:Int)=(↑(f.columns.length):Int))=false -> ∀ (x10:Nat),x10<=(setsP left).length->decide ((x10:Int) < (↑((setsFrom left []).length):Int))=true->(!sureP f c (pointsP f (setI left x10)))=false -> ∀ (x19:Nat),x19<=left.length->decide ((x19:Int) < (↑(left.length):Int))=true->(x10:Int) < (↑((setsFrom left []).length):Int))
  (o34:Sound f/\c<=f.columns.length/\GoodLeft f left/\prodL left<=30->decide ((c:Int)=(↑(f.columns.length):Int))=false -> ∀ (x10:Nat),x10<=(setsP left).length->decide ((x10:Int) < (↑((setsFrom left []).length):Int))=true->(!sureP f c (pointsP f (setI left x10)))=false -> ∀ (x19:Nat),x19<=left.length->decide ((x19:Int) < (↑(left.length):Int))=true->0<=(x19:Int))
  (o35:Sound f/\c<=f.columns.length/\GoodLeft f left/\prodL left<=30->decide ((c:Int)=(↑(f.columns.length):Int))=false -> ∀ (x10:Nat),x10<=(setsP left).length->decide ((x10:Int) < (↑((setsFrom left []).length):Int))=true->(!sureP f c (pointsP f (setI left x10)))=false -> ∀ (x19:Nat),x19<=left.length->decide ((x19:Int) < (↑(left.length):Int))=true->(x19:Int) < (↑(((setsFrom left []).getD x10 []).length):Int))
  (o36:Sound f/\c<=f.columns.length/\GoodLeft f left/\prodL left<=30->decide ((c:Int)=(↑(f.columns.length):Int))=false -> ∀ (x10:Nat),x10<=(setsP left).length->decide ((x10:Int) < (↑((setsFrom left []).length):Int))=true->(!sureP f c (pointsP f (setI left x10)))=false -> ∀ (x19:Nat),x19<=left.length->decide ((x19:Int) < (↑(left.length):Int))=true->inI (restQ left (setI left x10) x19 x19 - ((setsFrom left []).getD x10 []).getD x19 0))
  (o37:Sound f/\c<=f.columns.length/\GoodLeft f left/\prodL left<=30->decide ((c:Int)=(↑(f.columns.length):Int))=false -> ∀ (x10:Nat),x10<=(setsP left).length->decide ((x10:Int) < (↑((setsFrom left []).length):Int))=true->(!sureP f c (pointsP f (setI left x10)))=false -> ∀ (x19:Nat),x19<=left.length->decide ((x19:Int) < (↑(left.length):Int))=true->0<=(x19:Int))
  (o38:Sound f/\c<=f.columns.length/\GoodLeft f left/\prodL left<=30->decide ((c:Int)=(↑(f.columns.length):Int))=false -> ∀ (x10:Nat),x10<=(setsP left).length->decide ((x10:Int) < (↑((setsFrom left []).length):Int))=true->(!sureP f c (pointsP f (setI left x10)))=false -> ∀ (x19:Nat),x19<=left.length->decide ((x19:Int) < (↑(left.length):Int))=true->(x19:Int) < (↑(left.length):Int))
  (o39:Sound f/\c<=f.columns.length/\GoodLeft f left/\prodL left<=30->decide ((c:Int)=(↑(f.columns.length):Int))=false -> ∀ (x10:Nat),x10<=(setsP left).length->decide ((x10:Int) < (↑((setsFrom left []).length):Int))=true->(!sureP f c (pointsP f (setI left x10)))=false -> ∀ (x19:Nat),x19<=left.length->decide ((x19:Int) < (↑(left.length):Int))=true->x19 < left.length)
  (o40:Sound f/\c<=f.columns.length/\GoodLeft f left/\prodL left<=30->decide ((c:Int)=(↑(f.columns.length):Int))=false -> ∀ (x10:Nat),x10<=(setsP left).length->decide ((x10:Int) < (↑((setsFrom left []).length):Int))=true->(!sureP f c (pointsP f (setI left x10)))=false -> ∀ (x19:Nat),x19<=left.length->decide ((x19:Int) < (↑(left.length):Int))=true->inI ((x19:Int) + 1))
  (o41:Sound f/\c<=f.columns.length/\GoodLeft f left/\prodL left<=30->decide ((c:Int)=(↑(f.columns.length):Int))=false -> ∀ (x10:Nat),x10<=(setsP left).length->decide ((x10:Int) < (↑((setsFrom left []).length):Int))=true->(!sureP f c (pointsP f (setI left x10)))=false -> ∀ (x19:Nat),x19<=left.length->decide ((x19:Int) < (↑(left.length):Int))=true->(x19:Int) + 1=(↑(x19 + 1):Int))
  (o42:Sound f/\c<=f.columns.length/\GoodLeft f left/\prodL left<=30->decide ((c:Int)=(↑(f.columns.length):Int))=false -> ∀ (x10:Nat),x10<=(setsP left).length->decide ((x10:Int) < (↑((setsFrom left []).length):Int))=true->(!sureP f c (pointsP f (setI left x10)))=false -> ∀ (x19:Nat),x19<=left.length->decide ((x19:Int) < (↑(left.length):Int))=true -> ∀ (i23:Nat),i23 < left.length->Decidable.rec (fun (h:¬i23=x19)=>[iv (restQ left (setI left x10) x19 i23)]) (fun (h:i23=x19)=>[iv (restQ left (setI left x10) x19 x19 - ((setsFrom left []).getD x10 []).getD x19 0)] ++ []) (instDecidableEqNat i23 x19) = [iv (restQ left (setI left x10) (x19 + 1) i23)])
  (o43:Sound f/\c<=f.columns.length/\GoodLeft f left/\prodL left<=30->decide ((c:Int)=(↑(f.columns.length):Int))=false -> ∀ (x10:Nat),x10<=(setsP left).length->decide ((x10:Int) < (↑((setsFrom left []).length):Int))=true->(!sureP f c (pointsP f (setI left x10)))=false -> ∀ (x19:Nat),x19<=left.length->decide ((x19:Int) < (↑(left.length):Int))=true->x19 + 1<=left.length)
  (o44:Sound f/\c<=f.columns.length/\GoodLeft f left/\prodL left<=30->decide ((c:Int)=(↑(f.columns.length):Int))=false -> ∀ (x10:Nat),x10<=(setsP left).length->decide ((x10:Int) < (↑((setsFrom left []).length):Int))=true->(!sureP f c (pointsP f (setI left x10)))=false -> ∀ (x19:Nat),x19<=left.length->decide ((x19:Int) < (↑(left.length):Int))=true->left.length - (x19 + 1) < left.length - x19)
  (o45:Sound f/\c<=f.columns.length/\GoodLeft f left/\prodL left<=30->decide ((c:Int)=(↑(f.columns.length):Int))=false -> ∀ (x10:Nat),x10<=(setsP left).length->decide ((x10:Int) < (↑((setsFrom left []).length):Int))=true->(!sureP f c (pointsP f (setI left x10)))=false -> ∀ (x19:Nat),x19<=left.length->decide ((x19:Int) < (↑(left.length):Int))=false->inI ((c:Int) + 1))
  (o46:Sound f/\c<=f.columns.length/\GoodLeft f left/\prodL left<=30->decide ((c:Int)=(↑(f.columns.length):Int))=false -> ∀ (x10:Nat),x10<=(setsP left).length->decide ((x10:Int) < (↑((setsFrom left []).length):Int))=true->(!sureP f c (pointsP f (setI left x10)))=false -> ∀ (x19:Nat),x19<=left.length->decide ((x19:Int) < (↑(left.length):Int))=false->(c:Int) + 1=(↑(c + 1):Int))
  (o47:Sound f/\c<=f.columns.length/\GoodLeft f left/\prodL left<=30->decide ((c:Int)=(↑(f.columns.length):Int))=false -> ∀ (x10:Nat),x10<=(setsP left).length->decide ((x10:Int) < (↑((setsFrom left []).length):Int))=true->(!sureP f c (pointsP f (setI left x10)))=false -> ∀ (x19:Nat),x19<=left.length->decide ((x19:Int) < (↑(left.length):Int))=false->left.length=(restL left (setI left x10)).length)
  (o48:Sound f/\c<=f.columns.length/\GoodLeft f left/\prodL left<=30->decide ((c:Int)=(↑(f.columns.length):Int))=false -> ∀ (x10:Nat),x10<=(setsP left).length->decide ((x10:Int) < (↑((setsFrom left []).length):Int))=true->(!sureP f c (pointsP f (setI left x10)))=false -> ∀ (x19:Nat),x19<=left.length->decide ((x19:Int) < (↑(left.length):Int))=false -> ∀ (i27:Nat),i27 < (restL left (setI left x10)).length -> [iv (restQ left (setI left x10) x19 i27)] = [iv ((restL left (setI left x10)).getD i27 0)])
  (o49:Sound f/\c<=f.columns.length/\GoodLeft f left/\prodL left<=30->decide ((c:Int)=(↑(f.columns.length):Int))=false -> ∀ (x10:Nat),x10<=(setsP left).length->decide ((x10:Int) < (↑((setsFrom left []).length):Int))=true->(!sureP f c (pointsP f (setI left x10)))=false -> ∀ (x19:Nat),x19<=left.length->decide ((x19:Int) < (↑(left.length):Int))=false->Triple Try.prog 105 (c105r f c left x10))
  (o50:Sound f/\c<=f.columns.length/\GoodLeft f left/\prodL left<=30->decide ((c:Int)=(↑(f.columns.length):Int))=false -> ∀ (x10:Nat),x10<=(setsP left).length->decide ((x10:Int) < (↑((setsFrom left []).length):Int))=true->(!sureP f c (pointsP f (setI left x10)))=false -> ∀ (x19:Nat),x19<=left.length->decide ((x19:Int) < (↑(left.length):Int))=false->c + 1<=f.columns.length)
  (o51:Sound f/\c<=f.columns.length/\GoodLeft f left/\prodL left<=30->decide ((c:Int)=(↑(f.columns.length):Int))=false -> ∀ (x10:Nat),x10<=(setsP left).length->decide ((x10:Int) < (↑((setsFrom left []).length):Int))=true->(!sureP f c (pointsP f (setI left x10)))=false -> ∀ (x19:Nat),x19<=left.length->decide ((x19:Int) < (↑(left.length):Int))=false->GoodLeft f (restL left (setI left x10)))
  (o52:Sound f/\c<=f.columns.length/\GoodLeft f left/\prodL left<=30->decide ((c:Int)=(↑(f.columns.length):Int))=false -> ∀ (x10:Nat),x10<=(setsP left).length->decide ((x10:Int) < (↑((setsFrom left []).length):Int))=true->(!sureP f c (pointsP f (setI left x10)))=false -> ∀ (x19:Nat),x19<=left.length->decide ((x19:Int) < (↑(left.length):Int))=false->prodL (restL left (setI left x10))<=30)
  (o53:Sound f/\c<=f.columns.length/\GoodLeft f left/\prodL left<=30->decide ((c:Int)=(↑(f.columns.length):Int))=false -> ∀ (x10:Nat),x10<=(setsP left).length->decide ((x10:Int) < (↑((setsFrom left []).length):Int))=true->(!sureP f c (pointsP f (setI left x10)))=false -> ∀ (x19:Nat),x19<=left.length->decide ((x19:Int) < (↑(left.length):Int))=false->0=(↑0:Int))
  (o54:Sound f/\c<=f.columns.length/\GoodLeft f left/\prodL left<=30->decide ((c:Int)=(↑(f.columns.length):Int))=false -> ∀ (x10:Nat),x10<=(setsP left).length->decide ((x10:Int) < (↑((setsFrom left []).length):Int))=true->(!sureP f c (pointsP f (setI left x10)))=false -> ∀ (x19:Nat),x19<=left.length->decide ((x19:Int) < (↑(left.length):Int))=false->(laysTo f c left x10).length=(laysIn f c left x10 0).length)
  (o55:Sound f/\c<=f.columns.length/\GoodLeft f left/\prodL left<=30->decide ((c:Int)=(↑(f.columns.length):Int))=false -> ∀ (x10:Nat),x10<=(setsP left).length->decide ((x10:Int) < (↑((setsFrom left []).length):Int))=true->(!sureP f c (pointsP f (setI left x10)))=false -> ∀ (x19:Nat),x19<=left.length->decide ((x19:Int) < (↑(left.length):Int))=false -> ∀ (i31:Nat),i31 < (laysTo f c left x10).length -> [aIntss ((laysTo f c left x10).getD i31 [])] = [aIntss ((laysIn f c left x10 0).getD i31 [])])
  (o56:Sound f/\c<=f.columns.length/\GoodLeft f left/\prodL left<=30->decide ((c:Int)=(↑(f.columns.length):Int))=false -> ∀ (x10:Nat),x10<=(setsP left).length->decide ((x10:Int) < (↑((setsFrom left []).length):Int))=true->(!sureP f c (pointsP f (setI left x10)))=false -> ∀ (x19:Nat),x19<=left.length->decide ((x19:Int) < (↑(left.length):Int))=false->0<=(moreL f c left x10).length)
  (o57:Sound f/\c<=f.columns.length/\GoodLeft f left/\prodL left<=30->decide ((c:Int)=(↑(f.columns.length):Int))=false -> ∀ (x10:Nat),x10<=(setsP left).length->decide ((x10:Int) < (↑((setsFrom left []).length):Int))=true->(!sureP f c (pointsP f (setI left x10)))=false -> ∀ (x19:Nat),x19<=left.length->decide ((x19:Int) < (↑(left.length):Int))=false -> ∀ (x30:Nat),x30<=(moreL f c left x10).length->decide ((x30:Int) < (↑((laysC f (f.columns.length - (c + 1)) (restL left (setI left x10))).length):Int))=true->0<=(x10:Int))
  (o58:Sound f/\c<=f.columns.length/\GoodLeft f left/\prodL left<=30->decide ((c:Int)=(↑(f.columns.length):Int))=false -> ∀ (x10:Nat),x10<=(setsP left).length->decide ((x10:Int) < (↑((setsFrom left []).length):Int))=true->(!sureP f c (pointsP f (setI left x10)))=false -> ∀ (x19:Nat),x19<=left.length->decide ((x19:Int) < (↑(left.length):Int))=false -> ∀ (x30:Nat),x30<=(moreL f c left x10).length->decide ((x30:Int) < (↑((laysC f (f.columns.length - (c + 1)) (restL left (setI left x10))).length):Int))=true->(x10:Int) < (↑((setsFrom left []).length):Int))
  (o59:Sound f/\c<=f.columns.length/\GoodLeft f left/\prodL left<=30->decide ((c:Int)=(↑(f.columns.length):Int))=false -> ∀ (x10:Nat),x10<=(setsP left).length->decide ((x10:Int) < (↑((setsFrom left []).length):Int))=true->(!sureP f c (pointsP f (setI left x10)))=false -> ∀ (x19:Nat),x19<=left.length->decide ((x19:Int) < (↑(left.length):Int))=false -> ∀ (x30:Nat),x30<=(moreL f c left x10).length->decide ((x30:Int) < (↑((laysC f (f.columns.length - (c + 1)) (restL left (setI left x10))).length):Int))=true->0<=(x30:Int))
  (o60:Sound f/\c<=f.columns.length/\GoodLeft f left/\prodL left<=30->decide ((c:Int)=(↑(f.columns.length):Int))=false -> ∀ (x10:Nat),x10<=(setsP left).length->decide ((x10:Int) < (↑((setsFrom left []).length):Int))=true->(!sureP f c (pointsP f (setI left x10)))=false -> ∀ (x19:Nat),x19<=left.length->decide ((x19:Int) < (↑(left.length):Int))=false -> ∀ (x30:Nat),x30<=(moreL f c left x10).length->decide ((x30:Int) < (↑((laysC f (f.columns.length - (c + 1)) (restL left (setI left x10))).length):Int))=true->(x30:Int) < (↑((laysC f (f.columns.length - (c + 1)) (restL left (setI left x10))).length):Int))
  (o61:Sound f/\c<=f.columns.length/\GoodLeft f left/\prodL left<=30->decide ((c:Int)=(↑(f.columns.length):Int))=false -> ∀ (x10:Nat),x10<=(setsP left).length->decide ((x10:Int) < (↑((setsFrom left []).length):Int))=true->(!sureP f c (pointsP f (setI left x10)))=false -> ∀ (x19:Nat),x19<=left.length->decide ((x19:Int) < (↑(left.length):Int))=false -> ∀ (x30:Nat),x30<=(moreL f c left x10).length->decide ((x30:Int) < (↑((laysC f (f.columns.length - (c + 1)) (restL left (setI left x10))).length):Int))=true->1 + ((laysC f (f.columns.length - (c + 1)) (restL left (setI left x10))).getD x30 []).length<=65536)
  (o62:Sound f/\c<=f.columns.length/\GoodLeft f left/\prodL left<=30->decide ((c:Int)=(↑(f.columns.length):Int))=false -> ∀ (x10:Nat),x10<=(setsP left).length->decide ((x10:Int) < (↑((setsFrom left []).length):Int))=true->(!sureP f c (pointsP f (setI left x10)))=false -> ∀ (x19:Nat),x19<=left.length->decide ((x19:Int) < (↑(left.length):Int))=false -> ∀ (x30:Nat),x30<=(moreL f c left x10).length->decide ((x30:Int) < (↑((laysC f (f.columns.length - (c + 1)) (restL left (setI left x10))).length):Int))=true->(laysIn f c left x10 x30).length + 1<=65536)
  (o63:Sound f/\c<=f.columns.length/\GoodLeft f left/\prodL left<=30->decide ((c:Int)=(↑(f.columns.length):Int))=false -> ∀ (x10:Nat),x10<=(setsP left).length->decide ((x10:Int) < (↑((setsFrom left []).length):Int))=true->(!sureP f c (pointsP f (setI left x10)))=false -> ∀ (x19:Nat),x19<=left.length->decide ((x19:Int) < (↑(left.length):Int))=false -> ∀ (x30:Nat),x30<=(moreL f c left x10).length->decide ((x30:Int) < (↑((laysC f (f.columns.length - (c + 1)) (restL left (setI left x10))).length):Int))=true->inI ((x30:Int) + 1))
  (o64:Sound f/\c<=f.columns.length/\GoodLeft f left/\prodL left<=30->decide ((c:Int)=(↑(f.columns.length):Int))=false -> ∀ (x10:Nat),x10<=(setsP left).length->decide ((x10:Int) < (↑((setsFrom left []).length):Int))=true->(!sureP f c (pointsP f (setI left x10)))=false -> ∀ (x19:Nat),x19<=left.length->decide ((x19:Int) < (↑(left.length):Int))=false -> ∀ (x30:Nat),x30<=(moreL f c left x10).length->decide ((x30:Int) < (↑((laysC f (f.columns.length - (c + 1)) (restL left (setI left x10))).length):Int))=true->(x30:Int) + 1=(↑(x30 + 1):Int))
  (o65:Sound f/\c<=f.columns.length/\GoodLeft f left/\prodL left<=30->decide ((c:Int)=(↑(f.columns.length):Int))=false -> ∀ (x10:Nat),x10<=(setsP left).length->decide ((x10:Int) < (↑((setsFrom left []).length):Int))=true->(!sureP f c (pointsP f (setI left x10)))=false -> ∀ (x19:Nat),x19<=left.length->decide ((x19:Int) < (↑(left.length):Int))=false -> ∀ (x30:Nat),x30<=(moreL f c left x10).length->decide ((x30:Int) < (↑((laysC f (f.columns.length - (c + 1)) (restL left (setI left x10))).length):Int))=true->(laysIn f c left x10 x30).length + 1=(laysIn f c left x10 (x30 + 1)).length)
  (o66:Sound f/\c<=f.columns.length/\GoodLeft f left/\prodL left<=30->decide ((c:Int)=(↑(f.columns.length):Int))=false -> ∀ (x10:Nat),x10<=(setsP left).length->decide ((x10:Int) < (↑((setsFrom left []).length):Int))=true->(!sureP f c (pointsP f (setI left x10)))=false -> ∀ (x19:Nat),x19<=left.length->decide ((x19:Int) < (↑(left.length):Int))=false -> ∀ (x30:Nat),x30<=(moreL f c left x10).length->decide ((x30:Int) < (↑((laysC f (f.columns.length - (c + 1)) (restL left (setI left x10))).length):Int))=true -> ∀ (i34:Nat),i34 < (laysIn f c left x10 x30).length + 1->catF (laysIn f c left x10 x30).length (fun (i:Nat)=>[aIntss ((laysIn f c left x10 x30).getD i [])]) (fun (j:Nat)=>List.getD [[AV.sl 1 (1 + ((laysC f (f.columns.length - (c + 1)) (restL left (setI left x10))).getD x30 []).length) (catF 1 (fun (j:Nat)=>List.getD [[AV.sl 1 ((setsFrom left []).getD x10 []).length fun (i:Nat)=>[iv (((setsFrom left []).getD x10 []).getD i 0)]]] j (TI.za ti27)) fun (i:Nat)=>[aInts (((laysC f (f.columns.length - (c + 1)) (restL left (setI left x10))).getD x30 []).getD i [])])]] j (TI.za ti24)) i34 = [aIntss ((laysIn f c left x10 (x30 + 1)).getD i34 [])])
  (o67:Sound f/\c<=f.columns.length/\GoodLeft f left/\prodL left<=30->decide ((c:Int)=(↑(f.columns.length):Int))=false -> ∀ (x10:Nat),x10<=(setsP left).length->decide ((x10:Int) < (↑((setsFrom left []).length):Int))=true->(!sureP f c (pointsP f (setI left x10)))=false -> ∀ (x19:Nat),x19<=left.length->decide ((x19:Int) < (↑(left.length):Int))=false -> ∀ (x30:Nat),x30<=(moreL f c left x10).length->decide ((x30:Int) < (↑((laysC f (f.columns.length - (c + 1)) (restL left (setI left x10))).length):Int))=true->x30 + 1<=(moreL f c left x10).length)
  (o68:Sound f/\c<=f.columns.length/\GoodLeft f left/\prodL left<=30->decide ((c:Int)=(↑(f.columns.length):Int))=false -> ∀ (x10:Nat),x10<=(setsP left).length->decide ((x10:Int) < (↑((setsFrom left []).length):Int))=true->(!sureP f c (pointsP f (setI left x10)))=false -> ∀ (x19:Nat),x19<=left.length->decide ((x19:Int) < (↑(left.length):Int))=false -> ∀ (x30:Nat),x30<=(moreL f c left x10).length->decide ((x30:Int) < (↑((laysC f (f.columns.length - (c + 1)) (restL left (setI left x10))).length):Int))=true->(moreL f c left x10).length - (x30 + 1) < (moreL f c left x10).length - x30)
  (o69:Sound f/\c<=f.columns.length/\GoodLeft f left/\prodL left<=30->decide ((c:Int)=(↑(f.columns.length):Int))=false -> ∀ (x10:Nat),x10<=(setsP left).length->decide ((x10:Int) < (↑((setsFrom left []).length):Int))=true->(!sureP f c (pointsP f (setI left x10)))=false -> ∀ (x19:Nat),x19<=left.length->decide ((x19:Int) < (↑(left.length):Int))=false -> ∀ (x30:Nat),x30<=(moreL f c left x10).length->decide ((x30:Int) < (↑((laysC f (f.columns.length - (c + 1)) (restL left (setI left x10))).length):Int))=false->inI ((x10:Int) + 1))
  (o70:Sound f/\c<=f.columns.length/\GoodLeft f left/\prodL left<=30->decide ((c:Int)=(↑(f.columns.length):Int))=false -> ∀ (x10:Nat),x10<=(setsP left).length->decide ((x10:Int) < (↑((setsFrom left []).length):Int))=true->(!sureP f c (pointsP f (setI left x10)))=false -> ∀ (x19:Nat),x19<=left.length->decide ((x19:Int) < (↑(left.length):Int))=false -> ∀ (x30:Nat),x30<=(moreL f c left x10).length->decide ((x30:Int) < (↑((laysC f (f.columns.length - (c + 1)) (restL left (setI left x10))).length):Int))=false->(x10:Int) + 1=(↑(x10 + 1):Int))
  (o71:Sound f/\c<=f.columns.length/\GoodLeft f left/\prodL left<=30->decide ((c:Int)=(↑(f.columns.length):Int))=false -> ∀ (x10:Nat),x10<=(setsP left).length->decide ((x10:Int) < (↑((setsFrom left []).length):Int))=true->(!sureP f c (pointsP f (setI left x10)))=false -> ∀ (x19:Nat),x19<=left.length->decide ((x19:Int) < (↑(left.length):Int))=false -> ∀ (x30:Nat),x30<=(moreL f c left x10).length->decide ((x30:Int) < (↑((laysC f (f.columns.length - (c + 1)) (restL left (setI left x10))).length):Int))=false->(laysIn f c left x10 x30).length=(laysTo f c left (x10 + 1)).length)
  (o72:Sound f/\c<=f.columns.length/\GoodLeft f left/\prodL left<=30->decide ((c:Int)=(↑(f.columns.length):Int))=false -> ∀ (x10:Nat),x10<=(setsP left).length->decide ((x10:Int) < (↑((setsFrom left []).length):Int))=true->(!sureP f c (pointsP f (setI left x10)))=false -> ∀ (x19:Nat),x19<=left.length->decide ((x19:Int) < (↑(left.length):Int))=false -> ∀ (x30:Nat),x30<=(moreL f c left x10).length->decide ((x30:Int) < (↑((laysC f (f.columns.length - (c + 1)) (restL left (setI left x10))).length):Int))=false -> ∀ (i36:Nat),i36 < (laysIn f c left x10 x30).length -> [aIntss ((laysIn f c left x10 x30).getD i36 [])] = [aIntss ((laysTo f c left (x10 + 1)).getD i36 [])])
  (o73:Sound f/\c<=f.columns.length/\GoodLeft f left/\prodL left<=30->decide ((c:Int)=(↑(f.columns.length):Int))=false -> ∀ (x10:Nat),x10<=(setsP left).length->decide ((x10:Int) < (↑((setsFrom left []).length):Int))=true->(!sureP f c (pointsP f (setI left x10)))=false -> ∀ (x19:Nat),x19<=left.length->decide ((x19:Int) < (↑(left.length):Int))=false -> ∀ (x30:Nat),x30<=(moreL f c left x10).length->decide ((x30:Int) < (↑((laysC f (f.columns.length - (c + 1)) (restL left (setI left x10))).length):Int))=false->x10 + 1<=(setsP left).length)
  (o74:Sound f/\c<=f.columns.length/\GoodLeft f left/\prodL left<=30->decide ((c:Int)=(↑(f.columns.length):Int))=false -> ∀ (x10:Nat),x10<=(setsP left).length->decide ((x10:Int) < (↑((setsFrom left []).length):Int))=true->(!sureP f c (pointsP f (setI left x10)))=false -> ∀ (x19:Nat),x19<=left.length->decide ((x19:Int) < (↑(left.length):Int))=false -> ∀ (x30:Nat),x30<=(moreL f c left x10).length->decide ((x30:Int) < (↑((laysC f (f.columns.length - (c + 1)) (restL left (setI left x10))).length):Int))=false->(setsP left).length - (x10 + 1) < (setsP left).length - x10)
  (o75:Sound f/\c<=f.columns.length/\GoodLeft f left/\prodL left<=30->decide ((c:Int)=(↑(f.columns.length):Int))=false -> ∀ (x10:Nat),x10<=(setsP left).length->decide ((x10:Int) < (↑((setsFrom left []).length):Int))=false->(laysTo f c left x10).length=(laysC f (f.columns.length - c) left).length)
  (o76:Sound f/\c<=f.columns.length/\GoodLeft f left/\prodL left<=30->decide ((c:Int)=(↑(f.columns.length):Int))=false -> ∀ (x10:Nat),x10<=(setsP left).length->decide ((x10:Int) < (↑((setsFrom left []).length):Int))=false -> ∀ (i38:Nat),i38 < (laysC f (f.columns.length - c) left).length -> [aIntss ((laysTo f c left x10).getD i38 [])] = [aIntss ((laysC f (f.columns.length - c) left).getD i38 [])]) :
  Triple Try.prog 105 (s105 f c left):=by
 refine triple_of Try.func105 rfl Try.call105 T0_ok _ rfl rfl rfl rfl (Nat.le_of_ble_eq_true (by kernel_rfl)) (fun _ _ _ _ h=>h) ?_
 intro hpre C hC _ hE
 obtain ⟨P,w0,E0,av,hA,ro,df⟩:=C
 obtain ⟨rfl,rfl,rfl⟩:=hC
 refine swp_seq ?_
 refine zR [1,2,3] [0] (Ak 2 tv) ?_
 refine swp_seq ?_
 refine swp_seq ?_
 refine zR [1,2,3,18] [0] (Ak 5 tv) ?_
 refine zI (decide ((c:Int)=(↑(f.columns.length):Int))) (fun y0 => ?_) (fun y0 => ?_)
 ·refine swp_seq ?_
  refine zC ([(0,c105z)]) [6] [56] (An (An (An (fun (i1:Env)=>(fun (i2:Bool)=>(fun (i3:Value)=>(fun (y4:Rel i1 i2 nilv i3)=>(o0 hpre y0 i1 i2 i3 y4))))) tv) tv) (Ak 1 tv)) ?_
  refine swp_ret ?_
  exact zT [56] (An (Ak 1 tv) (An (An (zr 1) (An (o1 hpre y0) (fun (i5:Nat)=>(fun (y6:i5 < (laysC f (f.columns.length - c) left).length)=>(o2 hpre y0 i5 y6))))) (An (zr true) (An (zr true) (zr true)))))
 ·refine swp_skip ?_
  refine swp_seq ?_
  refine zR [1,2,3,7] [0] (Ak 1 tv) ?_
  refine swp_seq ?_
  refine zC ([(1,CallSpec.eq (c105s f c left) [true,false])]) [1,2,3,7,8] [0] (Ak 1 (An (An (An (zr (aInts left)) (An (zr 0) tv)) (An (t134 (left) ([])) (An (An (o3 hpre y0) (An (o4 hpre y0) (fun (i7:Nat)=>(fun (y8:i7 < left.length)=>(An (o5 hpre y0 i7 y8) (o6 hpre y0 i7 y8)))))) (Ak 1 (fun (i9:Env)=>tv))))) (Ak 1 tv))) ?_
  refine swp_seq ?_
  refine swp_seq ?_
  refine zR [1,2,3,7,8,9] [0] (Ak 1 tv) ?_
  refine swp_block ?_
  refine zL (Hint.ann (h105a f c left) [(1,iv (c:Int)),(2,aInts left),(3,AV.ptr 0 []),(8,aIntss (setsFrom left []))] [(0,OB.cells 26 (cFrm f))] 10096) (zE hE [] [(0,.same 0),(5000,.nil)] [1,2,8] [0] (An (An (An (zr (iv (c:Int))) (zr true)) (An (An (zr (aInts left)) (zr true)) (An (An (zr (some (Src.same 0))) (zr nilP)) (An (An (zr (aIntss (setsFrom left []))) (zr true)) (An (zr (some Src.nil)) (An (An (ci (o7 hpre y0)) (zr nilN)) tv)))))) (An (An (An (zr (OB.cells 26 (cFrm f))) (zr true)) (An (o8 hpre y0) tv)) (An (zr true) (zr true))))) (o9 hpre y0) (fun (x10:Nat) hx10 => ?_)
  refine swp_seq ?_
  refine swp_seq ?_
  refine zR [1,2,3,8,7,9,25] [0,5000] (Ak 4 tv) ?_
  refine zI (decide ((x10:Int) < (↑((setsFrom left []).length):Int))) (fun y11 => ?_) (fun y11 => ?_)
  ·refine swp_skip ?_
   refine swp_seq ?_
   refine swp_block ?_
   refine swp_seq ?_
   refine swp_seq ?_
   refine zC ([(7,CallSpec.eq (c105p f c left x10) [true,false]),(8,CallSpec.eq (s101 f c (pointsP f (setI left x10))) [true,true,true])]) [1,2,3,8,7,9,37] [0,5000] (Ak 5 (An (An (o10 hpre y0 x10 hx10 y11) (o11 hpre y0 x10 hx10 y11)) (Ak 1 (An (An (An (zr (AV.agg (cFrm f))) (An (An (zr 1) (An (o12 hpre y0 x10 hx10 y11) (fun (i12:Nat)=>(fun (y13:i12 < (setI left x10).length)=>(o13 hpre y0 x10 hx10 y11 i12 y13))))) tv)) (An (t23 (f) (setI left x10)) (An (An hpre.1 (o14 hpre y0 x10 hx10 y11)) (Ak 1 (fun (i14:Env)=>tv))))) (An (An (An (zr (AV.agg (cFrm f))) (An (zr (iv (c:Int))) (An (zr (iv (pointsP f (setI left x10)))) tv))) (An (t101 (f) (c) (pointsP f (setI left x10))) (An (An hpre.1 (An (o15 hpre y0 x10 hx10 y11) (An (o16 hpre y0 x10 hx10 y11) (o17 hpre y0 x10 hx10 y11)))) (Ak 1 (fun (i15:Env)=>tv))))) (Ak 1 tv)))))) ?_
   refine zI (!sureP f c (pointsP f (setI left x10))) (fun y16 => ?_) (fun y16 => ?_)
   ·refine swp_exit ?_
    refine zR [1,2,3,8,7,9] [0,5000] (Ak 1 (An (o18 hpre y0 x10 hx10 y11 y16) (Ak 1 tv))) ?_
    exact zn (zE hE [] [(0,.same 0),(5000,.same 5000)] [1,2,8] [0] (An (An (An (zr (iv (c:Int))) (zr true)) (An (An (zr (aInts left)) (zr true)) (An (An (zr (some (Src.same 0))) (zr nilP)) (An (An (zr (aIntss (setsFrom left []))) (zr true)) (An (zr (some (Src.same 5000))) (An (An (ci (o19 hpre y0 x10 hx10 y11 y16)) (zr nilN)) tv)))))) (An (An (An (zr (OB.cells 26 (cFrm f))) (zr true)) (An (An (zr 24) (An (zr 1) (An (o20 hpre y0 x10 hx10 y11 y16) (fun (i17:Nat)=>(fun (y18:i17 < (laysTo f c left x10).length)=>(o21 hpre y0 x10 hx10 y11 y16 i17 y18)))))) tv)) (An (zr true) (zr true))))) (o22 hpre y0 x10 hx10 y11 y16) (o23 hpre y0 x10 hx10 y11 y16)
   ·refine swp_skip ?_
    refine swp_seq ?_
    refine zR [1,2,3,8,7,9,10] [0,5000,10224] (Ak 2 (An (o24 hpre y0 x10 hx10 y11 y16) (Ak 1 tv))) ?_
    refine swp_seq ?_
    refine swp_seq ?_
    refine zR [1,2,3,8,7,9,10,11] [0,5000,10224] (Ak 1 tv) ?_
    refine swp_block ?_
    refine zL (Hint.ann (h105b f c left x10) [(1,iv (c:Int)),(2,aInts left),(3,AV.ptr 0 []),(8,aIntss (setsFrom left [])),(7,AV.vec 5000),(9,iv (x10:Int))] [(0,OB.cells 26 (cFrm f)),(5000,OB.vec 24 1 (laysTo f c left x10).length fun (i:Nat)=>[aIntss ((laysTo f c left x10).getD i [])])] 20248) (zE hE [] [(0,.same 0),(5000,.same 5000),(5001,.same 10224)] [1,2,8,9] [0,5000] (An (An (An (zr (iv (c:Int))) (zr true)) (An (An (zr (aInts left)) (zr true)) (An (An (zr (some (Src.same 0))) (zr nilP)) (An (An (zr (aIntss (setsFrom left []))) (zr true)) (An (zr (some (Src.same 5000))) (An (An (zr (iv (x10:Int))) (zr true)) (An (zr (some (Src.same 10224))) (An (An (ci (o25 hpre y0 x10 hx10 y11 y16)) (zr nilN)) tv)))))))) (An (An (An (zr (OB.cells 26 (cFrm f))) (zr true)) (An (An (zr (OB.vec 24 1 (laysTo f c left x10).length fun (i:Nat)=>[aIntss ((laysTo f c left x10).getD i [])])) (zr true)) (An (An (zr 3) (An (zr 1) (An (o26 hpre y0 x10 hx10 y11 y16) (fun (i20:Nat)=>(fun (y21:i20 < 0 + left.length)=>(o27 hpre y0 x10 hx10 y11 y16 i20 y21)))))) tv))) (An (zr true) (zr true))))) (o28 hpre y0 x10 hx10 y11 y16) (fun (x19:Nat) hx19 => ?_)
    refine swp_seq ?_
    refine swp_seq ?_
    refine zR [1,2,3,8,7,9,10,11,44] [0,5000,5001] (Ak 4 tv) ?_
    refine zI (decide ((x19:Int) < (↑(left.length):Int))) (fun y22 => ?_) (fun y22 => ?_)
    ·refine swp_skip ?_
     refine swp_seq ?_
     refine swp_block ?_
     refine zR [1,2,3,8,7,9,10,11] [0,5000,5001] (Ak 2 (An (An (o29 hpre y0 x10 hx10 y11 y16 x19 hx19 y22) (o30 hpre y0 x10 hx10 y11 y16 x19 hx19 y22)) (An (An (o31 hpre y0 x10 hx10 y11 y16 x19 hx19 y22) tv) (Ak 2 (An (An (o32 hpre y0 x10 hx10 y11 y16 x19 hx19 y22) (o33 hpre y0 x10 hx10 y11 y16 x19 hx19 y22)) (Ak 2 (An (An (o34 hpre y0 x10 hx10 y11 y16 x19 hx19 y22) (o35 hpre y0 x10 hx10 y11 y16 x19 hx19 y22)) (Ak 1 (An (o36 hpre y0 x10 hx10 y11 y16 x19 hx19 y22) (An (An (o37 hpre y0 x10 hx10 y11 y16 x19 hx19 y22) (o38 hpre y0 x10 hx10 y11 y16 x19 hx19 y22)) (An (An (o39 hpre y0 x10 hx10 y11 y16 x19 hx19 y22) tv) tv))))))))))) ?_
     refine zR [1,2,3,8,7,9,10,11] [0,5000,5001] (Ak 1 (An (o40 hpre y0 x10 hx10 y11 y16 x19 hx19 y22) (Ak 1 tv))) ?_
     exact zn (zE hE [] [(0,.same 0),(5000,.same 5000),(5001,.same 5001)] [1,2,8,9] [0,5000] (An (An (An (zr (iv (c:Int))) (zr true)) (An (An (zr (aInts left)) (zr true)) (An (An (zr (some (Src.same 0))) (zr nilP)) (An (An (zr (aIntss (setsFrom left []))) (zr true)) (An (zr (some (Src.same 5000))) (An (An (zr (iv (x10:Int))) (zr true)) (An (zr (some (Src.same 5001))) (An (An (ci (o41 hpre y0 x10 hx10 y11 y16 x19 hx19 y22)) (zr nilN)) tv)))))))) (An (An (An (zr (OB.cells 26 (cFrm f))) (zr true)) (An (An (zr (OB.vec 24 1 (laysTo f c left x10).length fun (i:Nat)=>[aIntss ((laysTo f c left x10).getD i [])])) (zr true)) (An (An (zr 3) (An (zr 1) (An (zr left.length) (fun (i23:Nat)=>(fun (y24:i23 < left.length)=>(o42 hpre y0 x10 hx10 y11 y16 x19 hx19 y22 i23 y24)))))) tv))) (An (zr true) (zr true))))) (o43 hpre y0 x10 hx10 y11 y16 x19 hx19 y22) (o44 hpre y0 x10 hx10 y11 y16 x19 hx19 y22)
    ·refine swp_exit ?_
     refine swp_seq ?_
     refine swp_ent (zE (st2:=ASt.mk [(1,iv (c:Int)),(2,aInts left),(3,AV.ptr 0 []),(8,aIntss (setsFrom left [])),(7,AV.vec 5000),(9,iv (x10:Int)),(10,AV.sl 1 left.length fun (q:Nat)=>[iv (restQ left (setI left x10) x19 q)]),(11,iv (x19:Int)),(44,bv (decide ((x19:Int) < (↑(left.length):Int))))] [(0,OB.cells 26 (cFrm f)),(5000,OB.vec 24 1 (laysTo f c left x10).length fun (i:Nat)=>[aIntss ((laysTo f c left x10).getD i [])])] 20280) hE [5001] [(0,.same 0),(5000,.same 5000)] [1,2,8,9,11,44] [0,5000] (An (An (An (zr (iv (c:Int))) (zr true)) (An (An (zr (aInts left)) (zr true)) (An (An (zr (some (Src.same 0))) (zr nilP)) (An (An (zr (aIntss (setsFrom left []))) (zr true)) (An (zr (some (Src.same 5000))) (An (An (zr (iv (x10:Int))) (zr true)) (An (An (zr 1) (An (zr left.length) (fun (i25:Nat)=>(fun (y26:i25 < left.length)=>(zr ([iv (restQ left (setI left x10) x19 i25)])))))) (An (An (zr (iv (x19:Int))) (zr true)) (An (An (zr (bv (decide ((x19:Int) < (↑(left.length):Int))))) (zr true)) tv))))))))) (An (An (An (zr (OB.cells 26 (cFrm f))) (zr true)) (An (An (zr (OB.vec 24 1 (laysTo f c left x10).length fun (i:Nat)=>[aIntss ((laysTo f c left x10).getD i [])])) (zr true)) tv)) (An (zr true) (zr true))))) ?_
     refine zC ([(4,CallSpec.eq (c105r f c left x10) [true,false,false])]) [1,2,3,8,7,9,12] [0,5000] (Ak 2 (An (o45 hpre y0 x10 hx10 y11 y16 x19 hx19 y22) (Ak 1 (An (An (An (zr (AV.agg (cFrm f))) (An (ci (o46 hpre y0 x10 hx10 y11 y16 x19 hx19 y22)) (An (An (zr 1) (An (o47 hpre y0 x10 hx10 y11 y16 x19 hx19 y22) (fun (i27:Nat)=>(fun (y28:i27 < (restL left (setI left x10)).length)=>(o48 hpre y0 x10 hx10 y11 y16 x19 hx19 y22 i27 y28))))) tv))) (An (o49 hpre y0 x10 hx10 y11 y16 x19 hx19 y22) (An (An hpre.1 (An (o50 hpre y0 x10 hx10 y11 y16 x19 hx19 y22) (An (o51 hpre y0 x10 hx10 y11 y16 x19 hx19 y22) (o52 hpre y0 x10 hx10 y11 y16 x19 hx19 y22)))) (Ak 1 (fun (i29:Env)=>tv))))) (Ak 1 tv))))) ?_
     refine swp_seq ?_
     refine zR [1,2,3,8,7,9,12,13] [0,5000] (Ak 1 tv) ?_
     refine swp_block ?_
     refine zL (Hint.ann (h105c f c left x10) [(1,iv (c:Int)),(2,aInts left),(3,AV.ptr 0 []),(8,aIntss (setsFrom left [])),(9,iv (x10:Int)),(12,aLays (laysC f (f.columns.length - (c + 1)) (restL left (setI left x10))))] [(0,OB.cells 26 (cFrm f))] 30336) (zE hE [] [(0,.same 0),(5002,.same 5000)] [1,2,8,9,12] [0] (An (An (An (zr (iv (c:Int))) (zr true)) (An (An (zr (aInts left)) (zr true)) (An (An (zr (some (Src.same 0))) (zr nilP)) (An (An (zr (aIntss (setsFrom left []))) (zr true)) (An (An (zr (iv (x10:Int))) (zr true)) (An (An (zr (aLays (laysC f (f.columns.length - (c + 1)) (restL left (setI left x10))))) (zr true)) (An (zr (some (Src.same 5000))) (An (An (ci (o53 hpre y0 x10 hx10 y11 y16 x19 hx19 y22)) (zr nilN)) tv)))))))) (An (An (An (zr (OB.cells 26 (cFrm f))) (zr true)) (An (An (zr 24) (An (zr 1) (An (o54 hpre y0 x10 hx10 y11 y16 x19 hx19 y22) (fun (i31:Nat)=>(fun (y32:i31 < (laysTo f c left x10).length)=>(o55 hpre y0 x10 hx10 y11 y16 x19 hx19 y22 i31 y32)))))) tv)) (An (zr true) (zr true))))) (o56 hpre y0 x10 hx10 y11 y16 x19 hx19 y22) (fun (x30:Nat) hx30 => ?_)
     refine swp_seq ?_
     refine swp_seq ?_
     refine zR [1,2,3,8,9,12,7,13,68] [0,5002] (Ak 4 tv) ?_
     refine zI (decide ((x30:Int) < (↑((laysC f (f.columns.length - (c + 1)) (restL left (setI left x10))).length):Int))) (fun y33 => ?_) (fun y33 => ?_)
     ·refine swp_skip ?_
      refine swp_seq ?_
      refine swp_block ?_
      refine zR [1,2,3,8,9,12,7,13] [0,30464] (Ak 3 (An (An (o57 hpre y0 x10 hx10 y11 y16 x19 hx19 y22 x30 hx30 y33) (o58 hpre y0 x10 hx10 y11 y16 x19 hx19 y22 x30 hx30 y33)) (Ak 4 (An (An (o59 hpre y0 x10 hx10 y11 y16 x19 hx19 y22 x30 hx30 y33) (o60 hpre y0 x10 hx10 y11 y16 x19 hx19 y22 x30 hx30 y33)) (Ak 1 (An (o61 hpre y0 x10 hx10 y11 y16 x19 hx19 y22 x30 hx30 y33) (Ak 1 (An (o62 hpre y0 x10 hx10 y11 y16 x19 hx19 y22 x30 hx30 y33) (Ak 1 tv))))))))) ?_
      refine zR [1,2,3,8,9,12,7,13] [0,30464] (Ak 1 (An (o63 hpre y0 x10 hx10 y11 y16 x19 hx19 y22 x30 hx30 y33) (Ak 1 tv))) ?_
      exact zn (zE hE [] [(0,.same 0),(5002,.same 30464)] [1,2,8,9,12] [0] (An (An (An (zr (iv (c:Int))) (zr true)) (An (An (zr (aInts left)) (zr true)) (An (An (zr (some (Src.same 0))) (zr nilP)) (An (An (zr (aIntss (setsFrom left []))) (zr true)) (An (An (zr (iv (x10:Int))) (zr true)) (An (An (zr (aLays (laysC f (f.columns.length - (c + 1)) (restL left (setI left x10))))) (zr true)) (An (zr (some (Src.same 30464))) (An (An (ci (o64 hpre y0 x10 hx10 y11 y16 x19 hx19 y22 x30 hx30 y33)) (zr nilN)) tv)))))))) (An (An (An (zr (OB.cells 26 (cFrm f))) (zr true)) (An (An (zr 24) (An (zr 1) (An (o65 hpre y0 x10 hx10 y11 y16 x19 hx19 y22 x30 hx30 y33) (fun (i34:Nat)=>(fun (y35:i34 < (laysIn f c left x10 x30).length + 1)=>(o66 hpre y0 x10 hx10 y11 y16 x19 hx19 y22 x30 hx30 y33 i34 y35)))))) tv)) (An (zr true) (zr true))))) (o67 hpre y0 x10 hx10 y11 y16 x19 hx19 y22 x30 hx30 y33) (o68 hpre y0 x10 hx10 y11 y16 x19 hx19 y22 x30 hx30 y33)
     ·refine swp_exit ?_
      refine zR [1,2,3,8,9,7] [0,5002] (Ak 1 (An (o69 hpre y0 x10 hx10 y11 y16 x19 hx19 y22 x30 hx30 y33) (Ak 1 tv))) ?_
      exact zn (zE hE [] [(0,.same 0),(5000,.same 5002)] [1,2,8] [0] (An (An (An (zr (iv (c:Int))) (zr true)) (An (An (zr (aInts left)) (zr true)) (An (An (zr (some (Src.same 0))) (zr nilP)) (An (An (zr (aIntss (setsFrom left []))) (zr true)) (An (zr (some (Src.same 5002))) (An (An (ci (o70 hpre y0 x10 hx10 y11 y16 x19 hx19 y22 x30 hx30 y33)) (zr nilN)) tv)))))) (An (An (An (zr (OB.cells 26 (cFrm f))) (zr true)) (An (An (zr 24) (An (zr 1) (An (o71 hpre y0 x10 hx10 y11 y16 x19 hx19 y22 x30 hx30 y33) (fun (i36:Nat)=>(fun (y37:i36 < (laysIn f c left x10 x30).length)=>(o72 hpre y0 x10 hx10 y11 y16 x19 hx19 y22 x30 hx30 y33 i36 y37)))))) tv)) (An (zr true) (zr true))))) (o73 hpre y0 x10 hx10 y11 y16 x19 hx19 y22 x30 hx30 y33) (o74 hpre y0 x10 hx10 y11 y16 x19 hx19 y22 x30 hx30 y33)
  ·refine swp_exit ?_
   refine swp_seq ?_
   refine zR [6] [5000] (Ak 2 tv) ?_
   refine swp_ret ?_
   exact zT [5000] (An (Ak 1 tv) (An (An (zr 1) (An (o75 hpre y0 x10 hx10 y11) (fun (i38:Nat)=>(fun (y39:i38 < (laysC f (f.columns.length - c) left).length)=>(o76 hpre y0 x10 hx10 y11 i38 y39))))) (An (zr true) (An (zr true) (zr true)))))
theorem lay_cells {d:List AV} (s:List Int) (l:List (List Int)):AV.sl 1 (1 + l.length) (catF 1 (fun j=>[[aInts s]].getD j d) (fun i=>[aInts (l.getD i [])]))=aIntss (s :: l):=by
 have:(catF 1 (fun j=>[[aInts s]].getD j d) (fun i=>[aInts (l.getD i [])]))=fun i=>[aInts ((s :: l).getD i [])]:=by
  funext i
  unfold catF
  cases i with
  | zero=>rfl
  | succ i=>rw [if_neg (by omega),Nat.add_sub_cancel]; rfl
 unfold aIntss
 rw [this,List.length_cons,Nat.add_comm]
theorem t105 (f:Frm) (c:Nat) (left:List Int):Triple Try.prog 105 (s105 f c left):=by
  have key:∀ (k c:Nat) (left:List Int),f.columns.length - c<=k->Triple Try.prog 105 (s105 f c left):=by
    intro k
    induction k with
    | zero =>
      intro c left hk
      apply w105
      all_goals (rintro ⟨hs,hc,hl,hp⟩; have he:c=f.columns.length:=by omega)
      case o0=>intro _ E o u h; cases h; exact Rel.slN 1 _
      case o1=>intro _; rw [he,Nat.sub_self]; rfl
      case o2 =>
        intro _ i hi
        rw [he,Nat.sub_self] at hi ⊢
        have:i=0:=by (have h1:(laysC f 0 left).length=1:=rfl); omega
        subst this; rfl
      all_goals (intro h; exact absurd (by omega) (of_decide_eq_false h))
    | succ k ih =>
      intro c left hk
      apply w105
      all_goals (rintro ⟨hs,hc,hl,hp⟩)
      case o0=>intro _ E o u h; cases h; exact Rel.slN 1 _
      case o1=>intro h; rw [show c=f.columns.length by have:=of_decide_eq_true h; omega,Nat.sub_self]; rfl
      case o2 =>
        intro h i hi
        rw [show c=f.columns.length by have:=of_decide_eq_true h; omega,Nat.sub_self] at hi ⊢
        have:i=0:=by (have h1:(laysC f 0 left).length=1:=rfl); omega
        subst this; rfl
      all_goals (intro h; have he:c < f.columns.length:=(by have:=of_decide_eq_false h; omega); have h3:=hl.short hs; have hcl:=hs.columns)
      case o3=>exact Nat.zero_le _
      case o4=>exact h3
      case o5=>intro q hq; exact hl.nonneg q hq
      case o6=>intro q hq; exact hl.small hs q hq
      case o7 | o8=>rfl
      case o9=>exact Nat.zero_le _
      all_goals (intro x hx hx2; simp only [decide_eq_true_eq,decide_eq_false_iff_not] at hx2)
      all_goals (rw [setsFrom_nil] at hx2)
      all_goals (try rw [setsFrom_nil])
      case o75=>rw [show x=(setsP left).length by omega,laysTo_end he]
      case o76=>intro i hi; rw [show x=(setsP left).length by omega,laysTo_end he]
      all_goals (have hxl:x < prodL left:=(by rw [← setsP_len]; omega); have hsn:=setI_N hxl; have hset:=hl.isSet hxl; have hpts:=pts_bound hs hset; have hmem:=hl.set hxl; rw [← hsn] at hset hpts hmem)
      case o10 | o11=>omega
      case o12=>rfl
      case o13=>intro i hi; rfl
      case o14=>exact hset
      case o15=>exact he
      case o16 | o17=>omega
      all_goals (intro hsu; have hsu2:=hsu; simp only [Bool.not_eq_true',Bool.not_eq_false'] at hsu2)
      case o18 | o19=>first | omega | (have:=Nat.le_of_lt hxl; have:prodL left<=30:=hp; simp only [inI]; omega)
      case o20=>rw [laysTo_succ (by omega),laysOf_f hsu2,List.append_nil]
      case o21=>intro i hi; rw [laysTo_succ (by omega),laysOf_f hsu2,List.append_nil]
      case o22 | o23=>omega
      case o24 | o26 | o28=>omega
      case o25=>rfl
      case o27=>intro i hi; rfl
      all_goals (intro y hy hy2; simp only [decide_eq_true_eq,decide_eq_false_iff_not] at hy2)
      case o36 =>
        have a:=hmem y (by omega)
        have b:=hl.small hs y (by omega)
        have e:(setsP left).getD x []=setI left x:=rfl
        rw [restQ_self,e]; simp only [inI]; omega
      case o35 => have e : ((setsP left).getD x []).length = left.length := by (show (setI left x).length = _; rw [hsn, setN_len])
                  omega
      case o42 =>
        intro i hi
        refine rec_ei (fun h => ?_) (fun h => ?_)
        · unfold restQ
          by_cases h5:i < y
          · rw [if_pos h5,if_pos (by omega)]
          · rw [if_neg h5,if_neg (by omega)]
        · subst h
          rw [restQ_self]
          unfold restQ
          rw [if_pos (Nat.lt_succ_self _)]; rfl
      case o29 | o30 | o31 | o32 | o33 | o34 | o37 | o38 | o39 | o40 | o41 | o43 | o44=>first | omega | (simp only [inI]; omega)
      case o45 | o46=>first | omega | (simp only [inI]; omega)
      case o47=>exact (restL_len _ _).symm
      case o48=>intro i hi; rw [restL_len] at hi; rw [show y=left.length by omega,restQ_end hi]
      case o49=>exact ih _ _ (by omega)
      case o50=>omega
      case o51=>rw [hsn]; exact hl.rest hxl
      case o52=>exact rest_prod hl hxl hp
      case o53=>rfl
      case o54=>rw [laysIn_zero]
      case o55=>intro i hi; rw [laysIn_zero]
      case o56=>exact Nat.zero_le _
      all_goals (intro z hz hz2; simp only [decide_eq_true_eq,decide_eq_false_iff_not] at hz2)
      all_goals (have hml:(moreL f c left x).length=(laysC f (f.columns.length - (c + 1)) (restL left (setI left x))).length:=rfl)
      all_goals (have hm9:=moreL_len hs hl hp (c:=c) hxl; have hin:=laysIn_len hs hl hp (c:=c) hxl z)
      case o61 => have := moreL_at hs (c := c) (left := left) (x := x) (k := z) (by omega)
                  have e:(laysC f (f.columns.length - (c + 1)) (restL left (setI left x))).getD z []=(moreL f c left x).getD z []:=rfl
                  rw [e]; omega
      case o65=>rw [laysIn_succ (by omega),List.length_append]; rfl
      case o66 =>
        intro i hi
        rw [laysIn_succ (by omega)]
        exact catF_one (laysIn f c left x z) (setI left x :: (moreL f c left x).getD z []) [] (fun l=>[aIntss l]) rfl (fun _ _=>rfl) (congrArg (fun v=>[v]) (lay_cells _ _)) hi
      case o71=>rw [laysIn_end (by omega) (by omega) hsu2]
      case o72=>intro i hi; rw [laysIn_end (by omega) (by omega) hsu2]
      all_goals (first | omega | (simp only [inI]; omega))
  exact key _ c left (Nat.le_refl _)
theorem w78 (f:Frm)
  (o0:fitsF f/\(okFrm f=true->prodF f f.strips.length<=30)->(!decide (checkF f=0))=true->(lockR f).length=0)
  (o1:fitsF f/\(okFrm f=true->prodF f f.strips.length<=30)->(!decide (checkF f=0))=true->checkF f=stripsE f)
  (o2:fitsF f/\(okFrm f=true->prodF f f.strips.length<=30)->(!decide (checkF f=0))=false->Sound f)
  (o3:fitsF f/\(okFrm f=true->prodF f f.strips.length<=30)->(!decide (checkF f=0))=false->0=(↑0:Int))
  (o4:fitsF f/\(okFrm f=true->prodF f f.strips.length<=30)->(!decide (checkF f=0))=false->Sound f)
  (o5:fitsF f/\(okFrm f=true->prodF f f.strips.length<=30)->(!decide (checkF f=0))=false->0<=f.columns.length)
  (o6:fitsF f/\(okFrm f=true->prodF f f.strips.length<=30)->(!decide (checkF f=0))=false->GoodLeft f (stockTo f f.strips.length))
  (o7:fitsF f/\(okFrm f=true->prodF f f.strips.length<=30)->(!decide (checkF f=0))=false->prodL (stockTo f f.strips.length)<=30)
  (o8:fitsF f/\(okFrm f=true->prodF f f.strips.length<=30)->(!decide (checkF f=0))=false->decide ((↑((laysC f (f.columns.length - 0) (stockTo f f.strips.length)).length):Int)=0)=true->(lockR f).length=0)
  (o9:fitsF f/\(okFrm f=true->prodF f f.strips.length<=30)->(!decide (checkF f=0))=false->decide ((↑((laysC f (f.columns.length - 0) (stockTo f f.strips.length)).length):Int)=0)=true->3=stripsE f)
  (o10:fitsF f/\(okFrm f=true->prodF f f.strips.length<=30)->(!decide (checkF f=0))=false->decide ((↑((laysC f (f.columns.length - 0) (stockTo f f.strips.length)).length):Int)=0)=false->0 < (↑((laysC f (f.columns.length - 0) (stockTo f f.strips.length)).length):Int))
  (o11:fitsF f/\(okFrm f=true->prodF f f.strips.length<=30)->(!decide (checkF f=0))=false->decide ((↑((laysC f (f.columns.length - 0) (stockTo f f.strips.length)).length):Int)=0)=false->((laysC f (f.columns.length - 0) (stockTo f f.strips.length)).getD 0 []).length=(bestTo (laysA f) 0).length)
  (o12:fitsF f/\(okFrm f=true->prodF f f.strips.length<=30)->(!decide (checkF f=0))=false->decide ((↑((laysC f (f.columns.length - 0) (stockTo f f.strips.length)).length):Int)=0)=false -> ∀ (i6:Nat),i6 < (bestTo (laysA f) 0).length -> [aInts (((laysC f (f.columns.length - 0) (stockTo f f.strips.length)).getD 0 []).getD i6 [])] = [aInts ((bestTo (laysA f) 0).getD i6 [])])
  (o13:fitsF f/\(okFrm f=true->prodF f f.strips.length<=30)->(!decide (checkF f=0))=false->decide ((↑((laysC f (f.columns.length - 0) (stockTo f f.strips.length)).length):Int)=0)=false->0=(↑0:Int))
  (o14:fitsF f/\(okFrm f=true->prodF f f.strips.length<=30)->(!decide (checkF f=0))=false->decide ((↑((laysC f (f.columns.length - 0) (stockTo f f.strips.length)).length):Int)=0)=false->0<=(laysA f).length)
  (o15:fitsF f/\(okFrm f=true->prodF f f.strips.length<=30)->(!decide (checkF f=0))=false->decide ((↑((laysC f (f.columns.length - 0) (stockTo f f.strips.length)).length):Int)=0)=false -> ∀ (x5:Nat),x5<=(laysA f).length->decide ((x5:Int) < (↑((laysC f (f.columns.length - 0) (stockTo f f.strips.length)).length):Int))=true->0<=(x5:Int))
  (o16:fitsF f/\(okFrm f=true->prodF f f.strips.length<=30)->(!decide (checkF f=0))=false->decide ((↑((laysC f (f.columns.length - 0) (stockTo f f.strips.length)).length):Int)=0)=false -> ∀ (x5:Nat),x5<=(laysA f).length->decide ((x5:Int) < (↑((laysC f (f.columns.length - 0) (stockTo f f.strips.length)).length):Int))=true->(x5:Int) < (↑((laysC f (f.columns.length - 0) (stockTo f f.strips.length)).length):Int))
  (o17:fitsF f/\(okFrm f=true->prodF f f.strips.length<=30)->(!decide (checkF f=0))=false->decide ((↑((laysC f (f.columns.length - 0) (stockTo f f.strips.length)).length):Int)=0)=false -> ∀ (x5:Nat),x5<=(laysA f).length->decide ((x5:Int) < (↑((laysC f (f.columns.length - 0) (stockTo f f.strips.length)).length):Int))=true->((laysC f (f.columns.length - 0) (stockTo f f.strips.length)).getD x5 []).length=((laysA f).getD x5 []).length)
  (o18:fitsF f/\(okFrm f=true->prodF f f.strips.length<=30)->(!decide (checkF f=0))=false->decide ((↑((laysC f (f.columns.length - 0) (stockTo f f.strips.length)).length):Int)=0)=false -> ∀ (x5:Nat),x5<=(laysA f).length->decide ((x5:Int) < (↑((laysC f (f.columns.length - 0) (stockTo f f.strips.length)).length):Int))=true -> ∀ (i9:Nat),i9 < ((laysA f).getD x5 []).length -> [aInts (((laysC f (f.columns.length - 0) (stockTo f f.strips.length)).getD x5 []).getD i9 [])] = [aInts (((laysA f).getD x5 []).getD i9 [])])
  (o19:fitsF f/\(okFrm f=true->prodF f f.strips.length<=30)->(!decide (checkF f=0))=false->decide ((↑((laysC f (f.columns.length - 0) (stockTo f f.strips.length)).length):Int)=0)=false -> ∀ (x5:Nat),x5<=(laysA f).length->decide ((x5:Int) < (↑((laysC f (f.columns.length - 0) (stockTo f f.strips.length)).length):Int))=true->okLay ((laysA f).getD x5 []))
  (o20:fitsF f/\(okFrm f=true->prodF f f.strips.length<=30)->(!decide (checkF f=0))=false->decide ((↑((laysC f (f.columns.length - 0) (stockTo f f.strips.length)).length):Int)=0)=false -> ∀ (x5:Nat),x5<=(laysA f).length->decide ((x5:Int) < (↑((laysC f (f.columns.length - 0) (stockTo f f.strips.length)).length):Int))=true->okLay (bestTo (laysA f) x5))
  (o21:fitsF f/\(okFrm f=true->prodF f f.strips.length<=30)->(!decide (checkF f=0))=false->decide ((↑((laysC f (f.columns.length - 0) (stockTo f f.strips.length)).length):Int)=0)=false -> ∀ (x5:Nat),x5<=(laysA f).length->decide ((x5:Int) < (↑((laysC f (f.columns.length - 0) (stockTo f f.strips.length)).length):Int))=true->decide (manyL ((laysA f).getD x5 []) < manyL (bestTo (laysA f) x5))=true->0<=(x5:Int))
  (o22:fitsF f/\(okFrm f=true->prodF f f.strips.length<=30)->(!decide (checkF f=0))=false->decide ((↑((laysC f (f.columns.length - 0) (stockTo f f.strips.length)).length):Int)=0)=false -> ∀ (x5:Nat),x5<=(laysA f).length->decide ((x5:Int) < (↑((laysC f (f.columns.length - 0) (stockTo f f.strips.length)).length):Int))=true->decide (manyL ((laysA f).getD x5 []) < manyL (bestTo (laysA f) x5))=true->(x5:Int) < (↑((laysC f (f.columns.length - 0) (stockTo f f.strips.length)).length):Int))
  (o23:fitsF f/\(okFrm f=true->prodF f f.strips.length<=30)->(!decide (checkF f=0))=false->decide ((↑((laysC f (f.columns.length - 0) (stockTo f f.strips.length)).length):Int)=0)=false -> ∀ (x5:Nat),x5<=(laysA f).length->decide ((x5:Int) < (↑((laysC f (f.columns.length - 0) (stockTo f f.strips.length)).length):Int))=true->decide (manyL ((laysA f).getD x5 []) < manyL (bestTo (laysA f) x5))=true->inI ((x5:Int) + 1))
  (o24:fitsF f/\(okFrm f=true->prodF f f.strips.length<=30)->(!decide (checkF f=0))=false->decide ((↑((laysC f (f.columns.length - 0) (stockTo f f.strips.length)).length):Int)=0)=false -> ∀ (x5:Nat),x5<=(laysA f).length->decide ((x5:Int) < (↑((laysC f (f.columns.length - 0) (stockTo f f.strips.length)).length):Int))=true->decide (manyL ((laysA f).getD x5 []) < manyL (bestTo (laysA f) x5))=true->((laysC f (f.columns.length - 0) (stockTo f f.strips.length)).getD x5 []).length=(bestTo (laysA f) (x5 + 1)).length)
  (o25:fitsF f/\(okFrm f=true->prodF f f.strips.length<=30)->(!decide (checkF f=0))=false->decide ((↑((laysC f (f.columns.length - 0) (stockTo f f.strips.length)).length):Int)=0)=false -> ∀ (x5:Nat),x5<=(laysA f).length->decide ((x5:Int) < (↑((laysC f (f.columns.length - 0) (stockTo f f.strips.length)).length):Int))=true->decide (manyL ((laysA f).getD x5 []) < manyL (bestTo (laysA f) x5))=true -> ∀ (i14:Nat),i14 < (bestTo (laysA f) (x5 + 1)).length -> [aInts (((laysC f (f.columns.length - 0) (stockTo f f.strips.length)).getD x5 []).getD i14 [])] = [aInts ((bestTo (laysA f) (x5 + 1)).getD i14 [])])
  (o26:fitsF f/\(okFrm f=true->prodF f f.strips.length<=30)->(!decide (checkF f=0))=false->decide ((↑((laysC f (f.columns.length - 0) (stockTo f f.strips.length)).length):Int)=0)=false -> ∀ (x5:Nat),x5<=(laysA f).length->decide ((x5:Int) < (↑((laysC f (f.columns.length - 0) (stockTo f f.strips.length)).length):Int))=true->decide (manyL ((laysA f).getD x5 []) < manyL (bestTo (laysA f) x5))=true->(x5:Int) + 1=(↑(x5 + 1):Int))
  (o27:fitsF f/\(okFrm f=true->prodF f f.strips.length<=30)->(!decide (checkF f=0))=false->decide ((↑((laysC f (f.columns.length - 0) (stockTo f f.strips.length)).length):Int)=0)=false -> ∀ (x5:Nat),x5<=(laysA f).length->decide ((x5:Int) < (↑((laysC f (f.columns.length - 0) (stockTo f f.strips.length)).length):Int))=true->decide (manyL ((laysA f).getD x5 []) < manyL (bestTo (laysA f) x5))=true->x5 + 1<=(laysA f).length)
  (o28:fitsF f/\(okFrm f=true->prodF f f.strips.length<=30)->(!decide (checkF f=0))=false->decide ((↑((laysC f (f.columns.length - 0) (stockTo f f.strips.length)).length):Int)=0)=false -> ∀ (x5:Nat),x5<=(laysA f).length->decide ((x5:Int) < (↑((laysC f (f.columns.length - 0) (stockTo f f.strips.length)).length):Int))=true->decide (manyL ((laysA f).getD x5 []) < manyL (bestTo (laysA f) x5))=true->(laysA f).length - (x5 + 1) < (laysA f).length - x5)
  (o29:fitsF f/\(okFrm f=true->prodF f f.strips.length<=30)->(!decide (checkF f=0))=false->decide ((↑((laysC f (f.columns.length - 0) (stockTo f f.strips.length)).length):Int)=0)=false -> ∀ (x5:Nat),x5<=(laysA f).length->decide ((x5:Int) < (↑((laysC f (f.columns.length - 0) (stockTo f f.strips.length)).length):Int))=true->decide (manyL ((laysA f).getD x5 []) < manyL (bestTo (laysA f) x5))=false->inI ((x5:Int) + 1))
  (o30:fitsF f/\(okFrm f=true->prodF f f.strips.length<=30)->(!decide (checkF f=0))=false->decide ((↑((laysC f (f.columns.length - 0) (stockTo f f.strips.length)).length):Int)=0)=false -> ∀ (x5:Nat),x5<=(laysA f).length->decide ((x5:Int) < (↑((laysC f (f.columns.length - 0) (stockTo f f.strips.length)).length):Int))=true->decide (manyL ((laysA f).getD x5 []) < manyL (bestTo (laysA f) x5))=false->(bestTo (laysA f) x5).length=(bestTo (laysA f) (x5 + 1)).length)
  (o31:fitsF f/\(okFrm f=true->prodF f f.strips.length<=30)->(!decide (checkF f=0))=false->decide ((↑((laysC f (f.columns.length - 0) (stockTo f f.strips.length)).length):Int)=0)=false -> ∀ (x5:Nat),x5<=(laysA f).length->decide ((x5:Int) < (↑((laysC f (f.columns.length - 0) (stockTo f f.strips.length)).length):Int))=true->decide (manyL ((laysA f).getD x5 []) < manyL (bestTo (laysA f) x5))=false -> ∀ (i16:Nat),i16 < (bestTo (laysA f) (x5 + 1)).length -> [aInts ((bestTo (laysA f) x5).getD i16 [])] = [aInts ((bestTo (laysA f) (x5 + 1)).getD i16 [])])
  (o32:fitsF f/\(okFrm f=true->prodF f f.strips.length<=30)->(!decide (checkF f=0))=false->decide ((↑((laysC f (f.columns.length - 0) (stockTo f f.strips.length)).length):Int)=0)=false -> ∀ (x5:Nat),x5<=(laysA f).length->decide ((x5:Int) < (↑((laysC f (f.columns.length - 0) (stockTo f f.strips.length)).length):Int))=true->decide (manyL ((laysA f).getD x5 []) < manyL (bestTo (laysA f) x5))=false->(x5:Int) + 1=(↑(x5 + 1):Int))
  (o33:fitsF f/\(okFrm f=true->prodF f f.strips.length<=30)->(!decide (checkF f=0))=false->decide ((↑((laysC f (f.columns.length - 0) (stockTo f f.strips.length)).length):Int)=0)=false -> ∀ (x5:Nat),x5<=(laysA f).length->decide ((x5:Int) < (↑((laysC f (f.columns.length - 0) (stockTo f f.strips.length)).length):Int))=true->decide (manyL ((laysA f).getD x5 []) < manyL (bestTo (laysA f) x5))=false->x5 + 1<=(laysA f).length)
  (o34:fitsF f/\(okFrm f=true->prodF f f.strips.length<=30)->(!decide (checkF f=0))=false->decide ((↑((laysC f (f.columns.length - 0) (stockTo f f.strips.length)).length):Int)=0)=false -> ∀ (x5:Nat),x5<=(laysA f).length->decide ((x5:Int) < (↑((laysC f (f.columns.length - 0) (stockTo f f.strips.length)).length):Int))=true->decide (manyL ((laysA f).getD x5 []) < manyL (bestTo (laysA f) x5))=false->(laysA f).length - (x5 + 1) < (laysA f).length - x5)
  (o35:fitsF f/\(okFrm f=true->prodF f f.strips.length<=30)->(!decide (checkF f=0))=false->decide ((↑((laysC f (f.columns.length - 0) (stockTo f f.strips.length)).length):Int)=0)=false -> ∀ (x5:Nat),x5<=(laysA f).length->decide ((x5:Int) < (↑((laysC f (f.columns.length - 0) (stockTo f f.strips.length)).length):Int))=false->(bestTo (laysA f) x5).length=(lockR f).length)
  (o36:fitsF f/\(okFrm f=true->prodF f f.strips.length<=30)->(!decide (checkF f=0))=false->decide ((↑((laysC f (f.columns.length - 0) (stockTo f f.strips.length)).length):Int)=0)=false -> ∀ (x5:Nat),x5<=(laysA f).length->decide ((x5:Int) < (↑((laysC f (f.columns.length - 0) (stockTo f f.strips.length)).length):Int))=false -> ∀ (i18:Nat),i18 < (lockR f).length -> [aInts ((bestTo (laysA f) x5).getD i18 [])] = [aInts ((lockR f).getD i18 [])])
  (o37:fitsF f/\(okFrm f=true->prodF f f.strips.length<=30)->(!decide (checkF f=0))=false->decide ((↑((laysC f (f.columns.length - 0) (stockTo f f.strips.length)).length):Int)=0)=false -> ∀ (x5:Nat),x5<=(laysA f).length->decide ((x5:Int) < (↑((laysC f (f.columns.length - 0) (stockTo f f.strips.length)).length):Int))=false->0=stripsE f) :
  Triple Try.prog 78 (s78 f):=by
 refine triple_of Try.func78 rfl Try.call78 T0_ok _ rfl rfl rfl rfl (Nat.le_of_ble_eq_true (by kernel_rfl)) (fun _ _ _ _ h=>h) ?_
 intro hpre C hC _ hE
 obtain ⟨P,w0,E0,av,hA,ro,df⟩:=C
 obtain ⟨rfl,rfl,rfl⟩:=hC
 refine swp_seq ?_
 refine zR [1] [0] (Ak 3 tv) ?_
 refine swp_seq ?_
 refine swp_seq ?_
 refine zC ([(1,CallSpec.eq (s35 f) [true])]) [1,4] [0] (Ak 1 (An (An (An (zr (AV.agg (cFrm f))) tv) (An (t35 (f)) (An hpre.1 (Ak 1 (fun (i0:Env)=>tv))))) (Ak 1 tv))) ?_
 refine swp_seq ?_
 refine zR [1,4,11] [0] (Ak 2 tv) ?_
 refine zI (!decide (checkF f=0)) (fun y1 => ?_) (fun y1 => ?_)
 ·refine swp_seq ?_
  refine zR [2,3] [] (Ak 3 tv) ?_
  refine swp_ret ?_
  exact zT [] (An (Ak 2 tv) (An (An (o0 hpre y1) (An (An (ci (o1 hpre y1)) (zr nilN)) tv)) (An (zr true) (An (zr true) (zr true)))))
 ·refine swp_skip ?_
  refine swp_seq ?_
  refine zC ([(2,CallSpec.eq (s107 f) [true]),(3,CallSpec.eq (c78 f) [true,false,true])]) [5] [] (Ak 2 (An (An (An (zr (AV.agg (cFrm f))) tv) (An (t107 (f)) (An (o2 hpre y1) (Ak 1 (fun (i2:Env)=>tv))))) (An (An (An (zr (AV.agg (cFrm f))) (An (ci (o3 hpre y1)) (An (zr (aInts (stockTo f f.strips.length))) tv))) (An (t105 (f) (0) (stockTo f f.strips.length)) (An (An (o4 hpre y1) (An (o5 hpre y1) (An (o6 hpre y1) (o7 hpre y1)))) (Ak 1 (fun (i3:Env)=>tv))))) (Ak 1 tv)))) ?_
  refine swp_seq ?_
  refine swp_seq ?_
  refine zR [5,19] [] (Ak 3 tv) ?_
  refine zI (decide ((↑((laysC f (f.columns.length - 0) (stockTo f f.strips.length)).length):Int)=0)) (fun y4 => ?_) (fun y4 => ?_)
  ·refine swp_seq ?_
   refine zR [2,3] [] (Ak 2 tv) ?_
   refine swp_ret ?_
   exact zT [] (An (Ak 2 tv) (An (An (o8 hpre y1 y4) (An (An (ci (o9 hpre y1 y4)) (zr nilN)) tv)) (An (zr true) (An (zr true) (zr true)))))
  ·refine swp_skip ?_
   refine swp_seq ?_
   refine zR [5,6] [] (Ak 1 (An (An (by decide:Int.ofNat 0<=Int.ofNat 0) (o10 hpre y1 y4)) (Ak 2 tv))) ?_
   refine swp_seq ?_
   refine swp_seq ?_
   refine zR [5,6,7] [] (Ak 1 tv) ?_
   refine swp_block ?_
   refine zL (Hint.ann (h78 f) [(5,aLays (laysC f (f.columns.length - 0) (stockTo f f.strips.length)))] [] 10168) (zE hE [] [] [5] [] (An (An (An (zr (aLays (laysC f (f.columns.length - 0) (stockTo f f.strips.length)))) (zr true)) (An (An (zr 1) (An (o11 hpre y1 y4) (fun (i6:Nat)=>(fun (y7:i6 < (bestTo (laysA f) 0).length)=>(o12 hpre y1 y4 i6 y7))))) (An (An (ci (o13 hpre y1 y4)) (zr nilN)) tv))) (Ak 1 (An (zr true) (zr true))))) (o14 hpre y1 y4) (fun (x5:Nat) hx5 => ?_)
   refine swp_seq ?_
   refine swp_seq ?_
   refine zR [5,6,7,26] [] (Ak 4 tv) ?_
   refine zI (decide ((x5:Int) < (↑((laysC f (f.columns.length - 0) (stockTo f f.strips.length)).length):Int))) (fun y8 => ?_) (fun y8 => ?_)
   ·refine swp_skip ?_
    refine swp_seq ?_
    refine swp_block ?_
    refine swp_seq ?_
    refine zC ([(4,CallSpec.eq (c78a f x5) [false]),(6,CallSpec.eq (c78b f x5) [true])]) [5,6,7,36] [] (Ak 2 (An (An (o15 hpre y1 y4 x5 hx5 y8) (o16 hpre y1 y4 x5 hx5 y8)) (Ak 1 (An (An (An (An (zr 1) (An (o17 hpre y1 y4 x5 hx5 y8) (fun (i9:Nat)=>(fun (y10:i9 < ((laysA f).getD x5 []).length)=>(o18 hpre y1 y4 x5 hx5 y8 i9 y10))))) tv) (An (t61 ((laysA f).getD x5 [])) (An (o19 hpre y1 y4 x5 hx5 y8) (Ak 1 (fun (i11:Env)=>tv))))) (Ak 1 (An (An (An (zr (aIntss (bestTo (laysA f) x5))) tv) (An (t61 (bestTo (laysA f) x5)) (An (o20 hpre y1 y4 x5 hx5 y8) (Ak 1 (fun (i12:Env)=>tv))))) (Ak 1 tv))))))) ?_
    refine zI (decide (manyL ((laysA f).getD x5 []) < manyL (bestTo (laysA f) x5))) (fun y13 => ?_) (fun y13 => ?_)
    ·refine zR [5,6,7] [] (Ak 2 (An (An (o21 hpre y1 y4 x5 hx5 y8 y13) (o22 hpre y1 y4 x5 hx5 y8 y13)) (Ak 2 tv))) ?_
     refine zR [5,6,7] [] (Ak 1 (An (o23 hpre y1 y4 x5 hx5 y8 y13) (Ak 1 tv))) ?_
     exact zn (zE hE [] [] [5] [] (An (An (An (zr (aLays (laysC f (f.columns.length - 0) (stockTo f f.strips.length)))) (zr true)) (An (An (zr 1) (An (o24 hpre y1 y4 x5 hx5 y8 y13) (fun (i14:Nat)=>(fun (y15:i14 < (bestTo (laysA f) (x5 + 1)).length)=>(o25 hpre y1 y4 x5 hx5 y8 y13 i14 y15))))) (An (An (ci (o26 hpre y1 y4 x5 hx5 y8 y13)) (zr nilN)) tv))) (Ak 1 (An (zr true) (zr true))))) (o27 hpre y1 y4 x5 hx5 y8 y13) (o28 hpre y1 y4 x5 hx5 y8 y13)
    ·refine swp_skip ?_
     refine zR [5,6,7] [] (Ak 1 (An (o29 hpre y1 y4 x5 hx5 y8 y13) (Ak 1 tv))) ?_
     exact zn (zE hE [] [] [5] [] (An (An (An (zr (aLays (laysC f (f.columns.length - 0) (stockTo f f.strips.length)))) (zr true)) (An (An (zr 1) (An (o30 hpre y1 y4 x5 hx5 y8 y13) (fun (i16:Nat)=>(fun (y17:i16 < (bestTo (laysA f) (x5 + 1)).length)=>(o31 hpre y1 y4 x5 hx5 y8 y13 i16 y17))))) (An (An (ci (o32 hpre y1 y4 x5 hx5 y8 y13)) (zr nilN)) tv))) (Ak 1 (An (zr true) (zr true))))) (o33 hpre y1 y4 x5 hx5 y8 y13) (o34 hpre y1 y4 x5 hx5 y8 y13)
   ·refine swp_exit ?_
    refine swp_seq ?_
    refine zR [2,3] [] (Ak 3 tv) ?_
    refine swp_ret ?_
    exact zT [] (An (Ak 2 tv) (An (An (An (zr 1) (An (o35 hpre y1 y4 x5 hx5 y8) (fun (i18:Nat)=>(fun (y19:i18 < (lockR f).length)=>(o36 hpre y1 y4 x5 hx5 y8 i18 y19))))) (An (An (ci (o37 hpre y1 y4 x5 hx5 y8)) (zr nilN)) tv)) (An (zr true) (An (zr true) (zr true)))))
theorem laysA_len {f:Frm} (hs:Sound f) (h:prodF f f.strips.length<=30):(laysA f).length<=27000:=by
 have h1:=laysC_len hs f.columns.length _ (stock_good hs) (by have:=prod_stock hs _ (Nat.le_refl _); omega)
 have h2:=hs.columns
 exact Nat.le_trans h1 (Nat.le_trans (Nat.pow_le_pow_right (by omega) h2) (by decide))
theorem strips_ok {f:Frm} (h:stripsE f=0):okFrm f=true:=by
 cases e1:okFrm f with
 | true=>rfl
 | false=>unfold stripsE at h; rw [e1] at h; exact absurd h (by rw [if_neg Bool.false_ne_true]; decide)
theorem t78 (f:Frm):Triple Try.prog 78 (s78 f):=by
  apply w78
  all_goals (rintro ⟨hp,hpr⟩; intro h)
  case o0=>have e:=chk_bad h; unfold lockR; rw [e]; rfl
  case o1=>have e:=chk_bad h; unfold stripsE checkF; rw [e]; rfl
  all_goals (have e1:=chk_ok h; have hs:=sound_of e1; have hw:=laysA_whole hs)
  case o2 | o4=>exact hs
  case o3=>rfl
  case o5=>exact Nat.zero_le _
  case o6=>exact stock_good hs
  case o7=>have:=prod_stock hs _ (Nat.le_refl _); have:=hpr e1; omega
  all_goals (have eA:laysC f (f.columns.length - 0) (stockTo f f.strips.length)=laysA f:=rfl)
  all_goals (intro hz; first | (rw [eA] at hz; simp only [decide_eq_true_eq,decide_eq_false_iff_not] at hz) | rfl)
  case o8 => have e2 : laysA f = [] := List.eq_nil_of_length_eq_zero (by omega)
             unfold lockR; rw [e1,hw,e2]; rfl
  case o9 => have e2 : laysA f = [] := List.eq_nil_of_length_eq_zero (by omega)
             unfold stripsE; rw [e1,hw,e2]; rfl
  all_goals (try rw [eA])
  case o10=>omega
  case o11=>rfl
  case o12=>intro i hi; rfl
  case o14=>exact Nat.zero_le _
  all_goals (intro x hx hx2; simp only [decide_eq_true_eq,decide_eq_false_iff_not] at hx2; have hx2':((x:Nat):Int) < ((laysA f).length:Int) ∨ ¬ ((x:Nat):Int) < ((laysA f).length:Int):=(by first | exact .inl hx2 | exact .inr hx2))
  case o35 | o36 | o37 =>
    have hend:=best_end (ls:=laysA f) (by omega)
    have hxe:x=(laysA f).length:=by omega
    have hR:lockR f=bestTo (laysA f) (laysA f).length:=by unfold lockR; rw [if_pos e1,hw,hend]
    first
    | (rw [hR,hxe]; done)
    | (intro i hi; rw [hR,hxe]; done)
    | (unfold stripsE; rw [if_pos e1,hw,fm_isSome,if_pos (decide_eq_true (by omega))]; done)
  case o19=>exact laysA_ok hs (getD_mem _ _ (by omega))
  case o20=>exact laysA_ok hs (best_mem (by omega))
  case o15 | o16=>omega
  case o17=>rfl
  case o18=>intro i hi; rfl
  all_goals (intro hm; simp only [decide_eq_true_eq,decide_eq_false_iff_not] at hm)
  case o24=>rw [bestTo_new (by omega) hm]
  case o25=>intro i hi; rw [bestTo_new (by omega) hm]
  case o30=>rw [bestTo_old (by omega) hm]
  case o31=>intro i hi; rw [bestTo_old (by omega) hm]
  all_goals (have hlen:=laysA_len hs (hpr e1))
  all_goals (first | omega | (simp only [inI]; omega))
theorem w122 (f:Frm)
  (o0:fitsF f/\(okFrm f=true->prodF f f.strips.length<=30)->okFrm f=true->prodF f f.strips.length<=30) :
  Triple Try.prog 122 (s122 f):=by
 refine triple_of Try.func122 rfl Try.call122 T0_ok _ rfl rfl rfl rfl (Nat.le_of_ble_eq_true (by kernel_rfl)) (fun _ _ _ _ h=>h) ?_
 intro hpre C hC _ hE
 obtain ⟨P,w0,E0,av,hA,ro,df⟩:=C
 obtain ⟨rfl,rfl,rfl⟩:=hC
 refine swp_seq ?_
 refine zR [1] [0] (Ak 2 tv) ?_
 refine swp_seq ?_
 refine zC ([(1,CallSpec.eq (s78 f) [true])]) [4] [] (Ak 1 (An (An (An (zr (AV.agg (cFrm f))) tv) (An (t78 (f)) (An (An hpre.1 (fun (y0:okFrm f=true)=>(o0 hpre y0))) (Ak 1 (fun (i1:Env)=>tv))))) (Ak 5 tv))) ?_
 refine swp_seq ?_
 refine zR [2] [] (Ak 3 tv) ?_
 refine swp_ret ?_
 exact zT [] (An (Ak 1 tv) (An (An (zr (bv (decide (stripsE f=0)))) (zr nilN)) (An (zr true) (An (zr true) (zr true)))))
theorem t122 (f:Frm):Triple Try.prog 122 (s122 f):=by
 apply w122
 all_goals (rintro ⟨hp,hpr⟩; exact hpr)
theorem w77 (f:Frm)
  (o0:fitsF f/\(okFrm f=true->prodF f f.strips.length<=30)->okFrm f=true->prodF f f.strips.length<=30)
  (o1:fitsF f/\(okFrm f=true->prodF f f.strips.length<=30)->(!decide (stripsE f=0))=true->0=stripsN f)
  (o2:fitsF f/\(okFrm f=true->prodF f f.strips.length<=30)->(!decide (stripsE f=0))=false->okLay (lockR f))
  (o3:fitsF f/\(okFrm f=true->prodF f f.strips.length<=30)->(!decide (stripsE f=0))=false->manyL (lockR f)=stripsN f)
  (o4:fitsF f/\(okFrm f=true->prodF f f.strips.length<=30)->(!decide (stripsE f=0))=false->0=stripsE f) :
  Triple Try.prog 77 (s77 f):=by
 refine triple_of Try.func77 rfl Try.call77 T0_ok _ rfl rfl rfl rfl (Nat.le_of_ble_eq_true (by kernel_rfl)) (fun _ _ _ _ h=>h) ?_
 intro hpre C hC _ hE
 obtain ⟨P,w0,E0,av,hA,ro,df⟩:=C
 obtain ⟨rfl,rfl,rfl⟩:=hC
 refine swp_seq ?_
 refine zR [1] [0] (Ak 3 tv) ?_
 refine swp_seq ?_
 refine zC ([(1,CallSpec.eq (s78 f) [true])]) [4,5] [] (Ak 1 (An (An (An (zr (AV.agg (cFrm f))) tv) (An (t78 (f)) (An (An hpre.1 (fun (y0:okFrm f=true)=>(o0 hpre y0))) (Ak 1 (fun (i1:Env)=>tv))))) (Ak 5 tv))) ?_
 refine swp_seq ?_
 refine swp_seq ?_
 refine zR [4,5,12] [] (Ak 2 tv) ?_
 refine zI (!decide (stripsE f=0)) (fun y2 => ?_) (fun y2 => ?_)
 ·refine swp_seq ?_
  refine zR [2,3] [] (Ak 3 tv) ?_
  refine swp_ret ?_
  exact zT [] (An (Ak 2 tv) (An (An (An (ci (o1 hpre y2)) (zr nilN)) (An (An (zr (iv (stripsE f))) (zr nilN)) tv)) (An (zr true) (An (zr true) (zr true)))))
 ·refine swp_skip ?_
  refine swp_seq ?_
  refine zC ([(1,CallSpec.eq (c77 f) [true])]) [2,3] [] (Ak 1 (An (An (An (zr (aIntss (lockR f))) tv) (An (t61 (lockR f)) (An (o2 hpre y2) (Ak 1 (fun (i3:Env)=>tv))))) (Ak 2 tv))) ?_
  refine swp_ret ?_
  exact zT [] (An (Ak 2 tv) (An (An (An (ci (o3 hpre y2)) (zr nilN)) (An (An (ci (o4 hpre y2)) (zr nilN)) tv)) (An (zr true) (An (zr true) (zr true)))))
theorem t77 (f:Frm):Triple Try.prog 77 (s77 f):=by
 apply w77
 all_goals (rintro ⟨hp,hpr⟩)
 case o0=>exact hpr
 all_goals (intro h)
 case o1 =>
  simp only [Bool.not_eq_true',decide_eq_false_iff_not] at h
  unfold stripsE at h
  unfold stripsN
  cases e1:okFrm f with
  | false=>rfl
  | true =>
   rw [e1] at h
   cases e:wholeP f 0 with
   | none=>rfl
   | some x=>rw [e] at h; exact absurd rfl h
 all_goals (simp only [Bool.not_eq_false',decide_eq_true_eq] at h)
 all_goals (have e1:=strips_ok h)
 case o2=>exact okLay_of (sound_of e1) (lockR_lay e1 h).1
 case o3=>exact (lockR_lay e1 h).2
 case o4=>exact h.symm
end Go.Ab
namespace Go.Sh
open Go.Ab
def putF (f:Frm) (c:Nat) (q:Piece):Frm:={ f with columns:=f.columns.set c (col f c ++ [(f.pieces.length:Int)]),pieces:=f.pieces ++ [q] }
def takesG (f:Frm) (c:Int) (q:Piece):Bool:=(okFrm f && isCol f c) && okFrm (putF f c.toNat q)
def takesB (f:Frm) (c:Int) (q:Piece):Bool:=takesG f c q && (wholeP (putF f c.toNat q) 0).isSome
def takesE (f:Frm) (c:Int) (q:Piece):Int:=if okFrm f && isCol f c then (if okFrm (putF f c.toNat q) then 0 else 1) else openF f (isCol f c)
end Go.Sh
namespace Go.Ab
open Go Go.RowKit Go.Proofs Go.Sh Go.En
def s71 (f:Frm) (c:Int) (q:Piece):CallSpec:={ args:=[vFrm f,iv c,.agg (cPiece q)],res := .tup [bv (takesB f c q),iv (takesE f c q)],pre:=smallF f }
def c71c (f:Frm) (c:Int) (q:Piece):CallSpec:=s124o f.columns 152
def c71k (f:Frm) (c:Int) (q:Piece):CallSpec:=s34 (putF f c.toNat q)
def c71w (f:Frm) (c:Int) (q:Piece):CallSpec:=s90 (putF f c.toNat q) 0
end Go.Ab
namespace Go.Ab
open Go Go.RowKit Go.Proofs Go.Sh Go.En
theorem w71 (f:Frm) (c:Int) (q:Piece)
  (o0:smallF f->fitsF f)
  (o1:smallF f->(!decide (openF f (isCol f c)=0))=true->false=takesB f c q)
  (o2:smallF f->(!decide (openF f (isCol f c)=0))=true->openF f (isCol f c)=takesE f c q)
  (o3:smallF f->(!decide (openF f (isCol f c)=0))=false -> ∀ (i3:Nat),i3 < f.columns.length -> [aInts (col f i3)] = [aInts (f.columns.getD i3 [])])
  (o4:smallF f->(!decide (openF f (isCol f c)=0))=false->0 < f.columns.length)
  (o5:smallF f->(!decide (openF f (isCol f c)=0))=false->f.columns.length<=60000)
  (o6:smallF f->(!decide (openF f (isCol f c)=0))=false->0<=c)
  (o7:smallF f->(!decide (openF f (isCol f c)=0))=false->c < (↑(f.columns.length):Int))
  (o8:smallF f->(!decide (openF f (isCol f c)=0))=false->c.toNat < f.columns.length)
  (o9:smallF f->(!decide (openF f (isCol f c)=0))=false->(f.columns.getD c.toNat []).length + 1<=65536)
  (o10:smallF f->(!decide (openF f (isCol f c)=0))=false->0<=c)
  (o11:smallF f->(!decide (openF f (isCol f c)=0))=false->c < (↑(f.columns.length):Int))
  (o12:smallF f->(!decide (openF f (isCol f c)=0))=false->c.toNat < f.columns.length)
  (o13:smallF f->(!decide (openF f (isCol f c)=0))=false->f.pieces.length + 1<=65536)
  (o14:smallF f->(!decide (openF f (isCol f c)=0))=false->f.length=(putF f c.toNat q).length)
  (o15:smallF f->(!decide (openF f (isCol f c)=0))=false->f.slack=(putF f c.toNat q).slack)
  (o16:smallF f->(!decide (openF f (isCol f c)=0))=false->f.strips.length=(putF f c.toNat q).strips.length)
  (o17:smallF f->(!decide (openF f (isCol f c)=0))=false -> ∀ (i6:Nat),i6 < (putF f c.toNat q).strips.length->cStrip (stp f i6)=cStrip (stp (putF f c.toNat q) i6))
  (o18:smallF f->(!decide (openF f (isCol f c)=0))=false->f.pieces.length + 1=(putF f c.toNat q).pieces.length)
  (o19:smallF f->(!decide (openF f (isCol f c)=0))=false -> ∀ (i8:Nat),i8 < (putF f c.toNat q).pieces.length->catF f.pieces.length (fun (i:Nat)=>cPiece (pc f i)) (fun (j:Nat)=>List.getD [[iv q.lo,iv q.hi,iv q.pence]] j (TI.za ti46)) i8=cPiece (pc (putF f c.toNat q) i8))
  (o20:smallF f->(!decide (openF f (isCol f c)=0))=false->f.columns.length=(putF f c.toNat q).columns.length)
  (o21:smallF f->(!decide (openF f (isCol f c)=0))=false -> ∀ (i10:Nat),i10 < (putF f c.toNat q).columns.length->Decidable.rec (fun (h:¬i10=c.toNat)=>[aInts (f.columns.getD i10 [])]) (fun (h:i10=c.toNat)=>[AV.sl 1 ((f.columns.getD c.toNat []).length + 1) (catF (f.columns.getD c.toNat []).length (fun (i:Nat)=>[iv ((f.columns.getD c.toNat []).getD i 0)]) fun (j:Nat)=>List.getD [[iv (↑(f.pieces.length):Int)]] j [iv 0])] ++ []) (instDecidableEqNat i10 c.toNat) = [aInts (col (putF f c.toNat q) i10)])
  (o22:smallF f->(!decide (openF f (isCol f c)=0))=false->smallF (putF f c.toNat q))
  (o23:smallF f->(!decide (openF f (isCol f c)=0))=false->(!decide (checkF (putF f c.toNat q)=0))=true->false=takesB f c q)
  (o24:smallF f->(!decide (openF f (isCol f c)=0))=false->(!decide (checkF (putF f c.toNat q)=0))=true->1=takesE f c q)
  (o25:smallF f->(!decide (openF f (isCol f c)=0))=false->(!decide (checkF (putF f c.toNat q)=0))=false->Sound (putF f c.toNat q))
  (o26:smallF f->(!decide (openF f (isCol f c)=0))=false->(!decide (checkF (putF f c.toNat q)=0))=false->(!!Option.isSome (wholeP (putF f c.toNat q) 0))=takesB f c q)
  (o27:smallF f->(!decide (openF f (isCol f c)=0))=false->(!decide (checkF (putF f c.toNat q)=0))=false->0=takesE f c q) :
  Triple Try.prog 71 (s71 f c q):=by
 refine triple_of Try.func71 rfl Try.call71 T0_ok _ rfl rfl rfl rfl (Nat.le_of_ble_eq_true (by kernel_rfl)) (fun _ _ _ _ h=>h) ?_
 intro hpre C hC _ hE
 obtain ⟨P,w0,E0,av,hA,ro,df⟩:=C
 obtain ⟨rfl,rfl,rfl⟩:=hC
 refine swp_seq ?_
 refine zR [1,3,5] [0,8] (Ak 4 tv) ?_
 refine swp_seq ?_
 refine swp_seq ?_
 refine zC ([(3,CallSpec.eq (s84 f c) [true,true]),(4,CallSpec.eq (s83 f (isCol f c)) [true,true])]) [1,3,5,9] [0,8] (Ak 3 (An (An (An (zr (AV.agg (cFrm f))) (An (zr (iv c)) tv)) (An (t84 (f) (c)) (An (o0 hpre) (Ak 1 (fun (i0:Env)=>tv))))) (An (An (An (zr (AV.agg (cFrm f))) (An (zr (bv (isCol f c))) tv)) (An (t83 (f) (isCol f c)) (An hpre (Ak 1 (fun (i1:Env)=>tv))))) (Ak 6 tv)))) ?_
 refine swp_seq ?_
 refine zR [1,3,5,9,20] [0,8] (Ak 2 tv) ?_
 refine zI (!decide (openF f (isCol f c)=0)) (fun y2 => ?_) (fun y2 => ?_)
 ·refine swp_seq ?_
  refine zR [6,7] [] (Ak 3 tv) ?_
  refine swp_ret ?_
  exact zT [] (An (Ak 2 tv) (An (An (An (cb (o1 hpre y2)) (zr nilN)) (An (An (ci (o2 hpre y2)) (zr nilN)) tv)) (An (zr true) (An (zr true) (zr true)))))
 ·refine swp_skip ?_
  refine swp_seq ?_
  refine zC ([(2,CallSpec.eq (c71c f c q) [false])]) [1,3,5] [0,8,152] (Ak 2 (An (An (An (An (zr 1) (An (zr f.columns.length) (fun (i3:Nat)=>(fun (y4:i3 < f.columns.length)=>(o3 hpre y2 i3 y4))))) tv) (An (t124o f.columns (152)) (An (An (o4 hpre y2) (o5 hpre y2)) (Ak 1 (fun (i5:Env)=>tv))))) (Ak 2 tv))) ?_
  refine swp_seq ?_
  refine zR [1,3,5,10] [0,8,152] (Ak 3 (An (An (o6 hpre y2) (o7 hpre y2)) (An (An (o8 hpre y2) tv) (Ak 1 tv)))) ?_
  refine swp_seq ?_
  refine zR [3,5] [0,8,152] (Ak 8 (An (An (zr ((↑((f.columns.getD c.toNat []).length):Int))) (zr ((↑((f.columns.getD c.toNat []).length):Int)))) (Ak 4 (An (An (o9 hpre y2) (by decide:0 < 1)) (An (An (o10 hpre y2) (o11 hpre y2)) (An (An (o12 hpre y2) tv) tv)))))) ?_
  refine swp_seq ?_
  refine zR [3] [0,440,152] (Ak 8 (An (An (zr ((↑(f.pieces.length):Int))) (zr ((↑(f.pieces.length):Int)))) (Ak 2 (An (An (o13 hpre y2) (by decide:0 < 1)) (Ak 2 tv))))) ?_
  refine swp_seq ?_
  refine swp_seq ?_
  refine swp_ent (zE (st2:=ASt.mk [(3,AV.ptr 0 [])] [(0,OB.cells 26 (cFrm (putF f c.toNat q)))] 464) hE [440,152] [(0,.same 0)] [] [] (An (An (An (zr (some (Src.same 0))) (zr nilP)) tv) (An (An (An (zr 26) (An (An (An (ci (o14 hpre y2)) (zr nilN)) (An (An (ci (o15 hpre y2)) (zr nilN)) (An (An (zr 2) (An (o16 hpre y2) (fun (i6:Nat)=>(fun (y7:i6 < (putF f c.toNat q).strips.length)=>(o17 hpre y2 i6 y7))))) (An (An (zr 3) (An (o18 hpre y2) (fun (i8:Nat)=>(fun (y9:i8 < (putF f c.toNat q).pieces.length)=>(o19 hpre y2 i8 y9))))) (An (An (zr 1) (An (o20 hpre y2) (fun (i10:Nat)=>(fun (y11:i10 < (putF f c.toNat q).columns.length)=>(o21 hpre y2 i10 y11))))) tv))))) (zr true))) tv) (An (zr true) (zr true))))) ?_
  refine zC ([(1,CallSpec.eq (c71k f c q) [true])]) [3,61] [0] (Ak 1 (An (An (An (zr (AV.agg (cFrm (putF f c.toNat q)))) tv) (An (t34 (putF f c.toNat q)) (An (o22 hpre y2) (Ak 1 (fun (i12:Env)=>tv))))) (Ak 1 tv))) ?_
  refine zI (!decide (checkF (putF f c.toNat q)=0)) (fun y13 => ?_) (fun y13 => ?_)
  ·refine swp_seq ?_
   refine zR [6,7] [] (Ak 2 tv) ?_
   refine swp_ret ?_
   exact zT [] (An (Ak 2 tv) (An (An (An (cb (o23 hpre y2 y13)) (zr nilN)) (An (An (ci (o24 hpre y2 y13)) (zr nilN)) tv)) (An (zr true) (An (zr true) (zr true)))))
  ·refine swp_skip ?_
   refine swp_seq ?_
   refine zC ([(2,CallSpec.eq (c71w f c q) [true,true])]) [6,7] [] (Ak 2 (An (An (An (zr (AV.agg (cFrm (putF f c.toNat q)))) (An (zr (iv 0)) tv)) (An (t90 (putF f c.toNat q) (0)) (An (An (o25 hpre y2 y13) (An (by decide:Int.ofNat 0<=Int.ofNat 0) (by decide:Int.ofNat 0<=Int.ofNat 1000))) (Ak 1 (fun (i14:Env)=>tv))))) (Ak 3 tv))) ?_
   refine swp_ret ?_
   exact zT [] (An (Ak 2 tv) (An (An (An (cb (o26 hpre y2 y13)) (zr nilN)) (An (An (ci (o27 hpre y2 y13)) (zr nilN)) tv)) (An (zr true) (An (zr true) (zr true)))))
theorem put_col {f:Frm} {c:Nat} (hc:c < f.columns.length) (q:Piece) (i:Nat):col (putF f c q) i=if i=c then col f c ++ [(f.pieces.length:Int)] else col f i:=by
 show (f.columns.set c _).getD i []=_
 rw [List.getD_eq_getElem?_getD,List.getElem?_set]
 by_cases e:c=i
 ·subst e; rw [if_pos rfl,if_pos hc,if_pos rfl]; rfl
 ·rw [if_neg e,if_neg (fun h=>e h.symm),col,List.getD_eq_getElem?_getD]
theorem put_len (f:Frm) (c:Nat) (q:Piece):(putF f c q).columns.length=f.columns.length:=List.length_set
theorem put_pieces (f:Frm) (c:Nat) (q:Piece):(putF f c q).pieces.length=f.pieces.length + 1:=by
 show (f.pieces ++ [q]).length=_; rw [List.length_append]; rfl
theorem ints_cells (l:List Int) (x:Int):AV.sl 1 (l.length + 1) (catF l.length (fun i=>[iv (l.getD i 0)]) (fun j=>[[iv x]].getD j [iv 0]))=aInts (l ++ [x]):=by
 have:(catF l.length (fun i=>[iv (l.getD i 0)]) (fun j=>[[iv x]].getD j [iv 0]))=fun i=>[iv ((l ++ [x]).getD i 0)]:=by
  funext i
  unfold catF
  rw [Go.Ab.getD_append]
  split
  ·rfl
  ·generalize i - l.length=k
   cases k with
   | zero=>rfl
   | succ k=>rfl
 unfold aInts
 rw [this,List.length_append]; rfl
theorem put_small {f:Frm} (hs:Sound f) {c:Nat} (hc:c < f.columns.length) (q:Piece):smallF (putF f c q):=by
 have h1:=hs.strips
 have h2:=hs.pieces
 have h3:=hs.columns
 refine ⟨by show f.strips.length<=64; omega,by rw [put_pieces]; omega,by rw [put_len]; omega,fun i => ?_⟩
 have:=hs.colLen c
 have:=hs.colLen i
 rw [put_col hc]
 split
 ·rw [List.length_append,List.length_singleton]; omega
 ·omega
theorem t71 (f:Frm) (c:Int) (q:Piece):Triple Try.prog 71 (s71 f c q):=by
 apply w71
 case o0=>exact fun hp=>small_fits hp
 all_goals (intro hp h)
 case o1=>have e:=gate_bad h; simp [takesB,takesG,e]
 case o2=>have e:=gate_bad h; unfold takesE; rw [e]; rfl
 all_goals (obtain ⟨e1,e0,e2,e3,e4⟩:=gate_ok h; have hc:=isCol_get e0; have hn:c.toNat < f.columns.length:=by omega)
 all_goals (have h2:=e3.pieces; have h3:=e3.columns; have h6:=e3.colLen c.toNat)
 case o3=>intro i hi; rfl
 case o9=>show (col f c.toNat).length + 1<=_; omega
 case o18=>exact (put_pieces _ _ _).symm
 case o19=>intro i hi; rw [put_pieces] at hi; exact catF_one f.pieces q default cPiece rfl (fun _ _=>rfl) rfl hi
 case o20=>exact (put_len _ _ _).symm
 case o21 =>
  intro i hi
  rw [put_col hn]
  refine rec_ei (fun h => ?_) (fun h => ?_)
  ·rw [if_neg h]; rfl
  ·rw [if_pos h]; exact congrArg (fun v=>[v]) (ints_cells _ _)
 case o22=>exact put_small e3 hn q
 all_goals (try (first | omega | rfl | (intro i hi; rfl)))
 all_goals (intro hk)
 case o23=>have e:=chk_bad hk; unfold takesB takesG; rw [e,Bool.and_false,Bool.false_and]
 case o24=>have e:=chk_bad hk; unfold takesE; rw [if_pos (by rw [e1,e0]; rfl),e]; rfl
 all_goals (have e:=chk_ok hk)
 case o25=>exact sound_of e
 case o26=>unfold takesB takesG; rw [e1,e0,e,Bool.not_not]; rfl
 case o27=>unfold takesE; rw [if_pos (by rw [e1,e0]; rfl),e]; rfl
end Go.Ab
namespace Go.Sh
open Go.Ab
def eqN (i j:Nat):Bool:=decide (i=j)
theorem eqN_t {i j:Nat} (h:eqN i j=true):i=j:=of_decide_eq_true h
theorem eqN_f {i j:Nat} (h:eqN i j=false):i ≠ j:=of_decide_eq_false h
def cpLen (f:Frm) (j i:Nat):Nat:=if j < i then (col f j).length else 0
variable {f:Frm}
theorem cpLen_self (f:Frm) (j:Nat):cpLen f j (j + 1)=(col f j).length:=if_pos (Nat.lt_succ_self j)
theorem cpLen_other {j i:Nat} (h:i ≠ j):cpLen f j (i + 1)=cpLen f j i:=by
 unfold cpLen
 by_cases h1:j < i
 ·rw [if_pos h1,if_pos (by omega)]
 ·rw [if_neg h1,if_neg (by omega)]
theorem same_prod (f o:Frm) (h:o.strips=f.strips):prodF o o.strips.length=prodF f f.strips.length:=by
 unfold prodF stp; rw [h]
end Go.Sh
namespace Go.Ab
open Go Go.RowKit Go.Proofs Go.Sh Go.En
def focS:CallSpec:={ args:=[],res := .any }
def ou31j (f:Frm) (j:Nat):OutSpec:={ args:=[vFrm f],pre:=smallF f,res := .agg [iv f.length,iv f.slack,.vec 0,.vec 1,.vec 2],hout:=[(0,.vec 65 2 f.strips.length (fun i=>cStrip (stp f i))),(1,.vec 46 3 f.pieces.length (fun i=>cPiece (pc f i))),(2,.vecx 27 1 f.columns.length (fun i=>[aInts (col f i)]) j [.vec 3]),(3,.vec 3 1 (cpLen f j f.columns.length) (fun p=>[iv ((col f j).getD p 0)]))] }
def h31j (f:Frm) (j:Nat):Hint:={ X:=Nat,M:=fun i=>[(4,iv i)],H:=fun i=>[(120,.cells 26 [iv f.length,iv f.slack,.vec 72,.vec 104,.vec 5000]),(5000,.vecx 27 1 i (fun k=>[aInts (col f k)]) j [.vec 5002]),(5002,.vec 3 1 (cpLen f j i) (fun p=>[iv ((col f j).getD p 0)]))],I:=fun i=>i<=f.columns.length,mu:=fun i=>f.columns.length - i,x0:=(0:Nat),nx:=fun i=>i + 1 }
def s31jo (f:Frm) (j:Nat) (id:Nat):CallSpec:=(ou31j f j).at [(0,id),(1,id + 1),(2,id + 2),(3,id + 3)]
def s70 (f:Frm) (c:Int) (q:Piece):CallSpec:={ args:=[vFrm f,iv c,.agg (cPiece q)],res:=vFrm (putF f c.toNat q),pre:=smallF f/\0<=c/\c < f.columns.length }
def c70 (f:Frm) (c:Int) (q:Piece) (id:Nat):CallSpec:=s31jo f c.toNat id
def s80 (f:Frm) (c:Int) (q:Piece):CallSpec:={ args:=[vFrm f,iv c,.agg (cPiece q)],res := .tup [bv (takesB f c q),iv (takesE f c q)],pre:=smallF f/\(okFrm f=true->prodF f f.strips.length<=30) }
end Go.Ab
namespace Go.Ab
open Go Go.RowKit Go.Proofs Go.Sh Go.En
theorem wo31j (f:Frm) (j:Nat)
  (o0:smallF f->0 + List.length (Frm.strips f)<=65536)
  (o1:smallF f->0 + List.length (Frm.pieces f)<=65536)
  (o2:smallF f->0=(↑0:Int))
  (o3:smallF f->cpLen f j 0=0)
  (o4:smallF f->0<=List.length (Frm.columns f))
  (o5:smallF f -> ∀ (x0:Nat),x0<=List.length (Frm.columns f)->decide ((↑x0:Int) < (↑(List.length (Frm.columns f)):Int))=true->eqN x0 j=true->0<=(↑x0:Int))
  (o6:smallF f -> ∀ (x0:Nat),x0<=List.length (Frm.columns f)->decide ((↑x0:Int) < (↑(List.length (Frm.columns f)):Int))=true->eqN x0 j=true->(↑x0:Int) < (↑(List.length (Frm.columns f)):Int))
  (o7:smallF f -> ∀ (x0:Nat),x0<=List.length (Frm.columns f)->decide ((↑x0:Int) < (↑(List.length (Frm.columns f)):Int))=true->eqN x0 j=true->0 + List.length (col f x0)<=65536)
  (o8:smallF f -> ∀ (x0:Nat),x0<=List.length (Frm.columns f)->decide ((↑x0:Int) < (↑(List.length (Frm.columns f)):Int))=true->eqN x0 j=true->x0 + 1<=65536)
  (o9:smallF f -> ∀ (x0:Nat),x0<=List.length (Frm.columns f)->decide ((↑x0:Int) < (↑(List.length (Frm.columns f)):Int))=true->eqN x0 j=true->j=x0)
  (o10:smallF f -> ∀ (x0:Nat),x0<=List.length (Frm.columns f)->decide ((↑x0:Int) < (↑(List.length (Frm.columns f)):Int))=true->eqN x0 j=true->inI ((↑x0:Int) + 1))
  (o11:smallF f -> ∀ (x0:Nat),x0<=List.length (Frm.columns f)->decide ((↑x0:Int) < (↑(List.length (Frm.columns f)):Int))=true->eqN x0 j=true->(↑x0:Int) + 1=(↑(x0 + 1):Int))
  (o12:smallF f -> ∀ (x0:Nat),x0<=List.length (Frm.columns f)->decide ((↑x0:Int) < (↑(List.length (Frm.columns f)):Int))=true->eqN x0 j=true->0 + List.length (col f x0)=cpLen f j (x0 + 1))
  (o13:smallF f -> ∀ (x0:Nat),x0<=List.length (Frm.columns f)->decide ((↑x0:Int) < (↑(List.length (Frm.columns f)):Int))=true->eqN x0 j=true -> ∀ (i6:Nat),i6 < 0 + List.length (col f x0) -> [iv (List.getD (col f x0) i6 0)] = [iv (List.getD (col f j) i6 0)])
  (o14:smallF f -> ∀ (x0:Nat),x0<=List.length (Frm.columns f)->decide ((↑x0:Int) < (↑(List.length (Frm.columns f)):Int))=true->eqN x0 j=true->x0 + 1<=List.length (Frm.columns f))
  (o15:smallF f -> ∀ (x0:Nat),x0<=List.length (Frm.columns f)->decide ((↑x0:Int) < (↑(List.length (Frm.columns f)):Int))=true->eqN x0 j=true->List.length (Frm.columns f) - (x0 + 1) < List.length (Frm.columns f) - x0)
  (o16:smallF f -> ∀ (x0:Nat),x0<=List.length (Frm.columns f)->decide ((↑x0:Int) < (↑(List.length (Frm.columns f)):Int))=true->eqN x0 j=false->0<=(↑x0:Int))
  (o17:smallF f -> ∀ (x0:Nat),x0<=List.length (Frm.columns f)->decide ((↑x0:Int) < (↑(List.length (Frm.columns f)):Int))=true->eqN x0 j=false->(↑x0:Int) < (↑(List.length (Frm.columns f)):Int))
  (o18:smallF f -> ∀ (x0:Nat),x0<=List.length (Frm.columns f)->decide ((↑x0:Int) < (↑(List.length (Frm.columns f)):Int))=true->eqN x0 j=false->0 + List.length (col f x0)<=65536)
  (o19:smallF f -> ∀ (x0:Nat),x0<=List.length (Frm.columns f)->decide ((↑x0:Int) < (↑(List.length (Frm.columns f)):Int))=true->eqN x0 j=false->x0 + 1<=65536)
  (o20:smallF f -> ∀ (x0:Nat),x0<=List.length (Frm.columns f)->decide ((↑x0:Int) < (↑(List.length (Frm.columns f)):Int))=true->eqN x0 j=false->j < x0 ∨ x0 + 1<=j)
  (o21:smallF f -> ∀ (x0:Nat),x0<=List.length (Frm.columns f)->decide ((↑x0:Int) < (↑(List.length (Frm.columns f)):Int))=true->eqN x0 j=false->inI ((↑x0:Int) + 1))
  (o22:smallF f -> ∀ (x0:Nat),x0<=List.length (Frm.columns f)->decide ((↑x0:Int) < (↑(List.length (Frm.columns f)):Int))=true->eqN x0 j=false->(↑x0:Int) + 1=(↑(x0 + 1):Int))
  (o23:smallF f -> ∀ (x0:Nat),x0<=List.length (Frm.columns f)->decide ((↑x0:Int) < (↑(List.length (Frm.columns f)):Int))=true->eqN x0 j=false -> ∀ (i8:Nat),i8 < x0 + 1->i8 ≠ j->catF x0 (fun (k:Nat)=>[aInts (col f k)]) (fun (j:Nat)=>List.getD [[AV.sl 1 (0 + List.length (col f x0)) fun (i:Nat)=>[iv (List.getD (col f x0) i 0)]]] j (TI.za ti27)) i8 = [aInts (col f i8)])
  (o24:smallF f -> ∀ (x0:Nat),x0<=List.length (Frm.columns f)->decide ((↑x0:Int) < (↑(List.length (Frm.columns f)):Int))=true->eqN x0 j=false->cpLen f j x0=cpLen f j (x0 + 1))
  (o25:smallF f -> ∀ (x0:Nat),x0<=List.length (Frm.columns f)->decide ((↑x0:Int) < (↑(List.length (Frm.columns f)):Int))=true->eqN x0 j=false->x0 + 1<=List.length (Frm.columns f))
  (o26:smallF f -> ∀ (x0:Nat),x0<=List.length (Frm.columns f)->decide ((↑x0:Int) < (↑(List.length (Frm.columns f)):Int))=true->eqN x0 j=false->List.length (Frm.columns f) - (x0 + 1) < List.length (Frm.columns f) - x0)
  (o27:smallF f -> ∀ (x0:Nat),x0<=List.length (Frm.columns f)->decide ((↑x0:Int) < (↑(List.length (Frm.columns f)):Int))=false->0 + List.length (Frm.strips f)=List.length (Frm.strips f))
  (o28:smallF f -> ∀ (x0:Nat),x0<=List.length (Frm.columns f)->decide ((↑x0:Int) < (↑(List.length (Frm.columns f)):Int))=false->0 + List.length (Frm.pieces f)=List.length (Frm.pieces f))
  (o29:smallF f -> ∀ (x0:Nat),x0<=List.length (Frm.columns f)->decide ((↑x0:Int) < (↑(List.length (Frm.columns f)):Int))=false->x0=List.length (Frm.columns f))
  (o30:smallF f -> ∀ (x0:Nat),x0<=List.length (Frm.columns f)->decide ((↑x0:Int) < (↑(List.length (Frm.columns f)):Int))=false->cpLen f j x0=cpLen f j (List.length (Frm.columns f)))
  (l:List (Nat × Nat)) (hl:l.map (·.1)=(OutSpec.hout (ou31j f j)).map (·.1)) (hnd:(l.map (·.2)).Nodup) :
  Triple Try.prog 31 (OutSpec.at (ou31j f j) l):=by
 refine triple_out Try.func31 rfl Try.call31 T0_ok _ _ _ _ l rfl (Nat.le_of_ble_eq_true (by kernel_rfl)) hl hnd (by kernel_rfl) (by kernel_rfl) (by kernel_rfl) ?_
 intro hpre C hC hE
 obtain ⟨P,w0,E0,av,hA,ro,df⟩:=C
 obtain ⟨rfl,rfl,rfl⟩:=hC
 refine swp_seq ?_
 refine zR [1,2] [0,8] (Ak 2 tv) ?_
 refine swp_seq ?_
 refine zR [1,2,3] [0,8,120,72,104] (Ak 7 (An (o0 hpre) (Ak 3 (An (o1 hpre) (Ak 3 tv))))) ?_
 refine swp_seq ?_
 refine swp_seq ?_
 refine zR [1,2,3,4] [0,8,120,72,104] (Ak 1 tv) ?_
 refine swp_block ?_
 refine zL (Hint.ann (h31j f j) [(1,AV.ptr 0 []),(2,AV.ptr 8 []),(3,AV.ptr 120 [])] [(0,OB.cells 26 (cFrm f)),(8,OB.cells 26 [iv 0,iv 0,nilv,nilv,nilv]),(72,OB.vec 65 2 (0 + List.length (Frm.strips f)) fun (i:Nat)=>cStrip (stp f i)),(104,OB.vec 46 3 (0 + List.length (Frm.pieces f)) fun (i:Nat)=>cPiece (pc f i))] 10144) (zE hE [] [(0,.same 0),(8,.same 8),(120,.same 120),(72,.same 72),(104,.same 104),(5000,.nil),(5002,.nil)] [] [0,8,72,104] (An (An (An (zr (some (Src.same 0))) (zr nilP)) (An (An (zr (some (Src.same 8))) (zr nilP)) (An (An (zr (some (Src.same 120))) (zr nilP)) (An (An (ci (o2 hpre)) (zr nilN)) tv)))) (An (An (An (zr (OB.cells 26 (cFrm f))) (zr true)) (An (An (zr (OB.cells 26 [iv 0,iv 0,nilv,nilv,nilv])) (zr true)) (An (An (zr (OB.vec 65 2 (0 + List.length (Frm.strips f)) fun (i:Nat)=>cStrip (stp f i))) (zr true)) (An (An (zr (OB.vec 46 3 (0 + List.length (Frm.pieces f)) fun (i:Nat)=>cPiece (pc f i))) (zr true)) (An (An (zr 26) (An (An (An (zr (iv (Frm.length f))) (zr nilN)) (An (An (zr (iv (Frm.slack f))) (zr nilN)) (An (zr (some (Src.same 72))) (An (zr (some (Src.same 104))) (An (zr (some Src.nil)) tv))))) (zr true))) (An (zr 0) (An (o3 hpre) tv))))))) (An (zr true) (zr true))))) (o4 hpre) (fun (x0:Nat) hx0 => ?_)
 refine swp_seq ?_
 refine swp_seq ?_
 refine zR [1,2,3,4,22] [0,8,120,72,104,5000,5002] (Ak 5 tv) ?_
 refine zI (decide ((↑x0:Int) < (↑(List.length (Frm.columns f)):Int))) (fun y1 => ?_) (fun y1 => ?_)
 ·refine swp_skip ?_
  refine swp_seq ?_
  refine swp_block ?_
  refine swp_cases (eqN x0 j) (fun y2 => ?_) (fun y2 => ?_)
  ·refine zC ([(9,focS),(10,focS)]) [1,2,3,4] [0,8,120,72,104,10264,10248] (Ak 6 (An (An (o5 hpre x0 hx0 y1 y2) (o6 hpre x0 hx0 y1 y2)) (Ak 1 (An (o7 hpre x0 hx0 y1 y2) (Ak 1 (An (An (o8 hpre x0 hx0 y1 y2) (o9 hpre x0 hx0 y1 y2)) (Ak 2 tv))))))) ?_
   refine zR [1,2,3,4] [0,8,120,72,104,10264,10248] (Ak 1 (An (o10 hpre x0 hx0 y1 y2) (Ak 1 tv))) ?_
   exact zn (zE hE [] [(0,.same 0),(8,.same 8),(120,.same 120),(72,.same 72),(104,.same 104),(5000,.same 10264),(5002,.same 10248)] [] [0,8,72,104] (An (An (An (zr (some (Src.same 0))) (zr nilP)) (An (An (zr (some (Src.same 8))) (zr nilP)) (An (An (zr (some (Src.same 120))) (zr nilP)) (An (An (ci (o11 hpre x0 hx0 y1 y2)) (zr nilN)) tv)))) (An (An (An (zr (OB.cells 26 (cFrm f))) (zr true)) (An (An (zr (OB.cells 26 [iv 0,iv 0,nilv,nilv,nilv])) (zr true)) (An (An (zr (OB.vec 65 2 (0 + List.length (Frm.strips f)) fun (i:Nat)=>cStrip (stp f i))) (zr true)) (An (An (zr (OB.vec 46 3 (0 + List.length (Frm.pieces f)) fun (i:Nat)=>cPiece (pc f i))) (zr true)) (An (An (zr 26) (An (An (An (zr (iv (Frm.length f))) (zr nilN)) (An (An (zr (iv (Frm.slack f))) (zr nilN)) (An (zr (some (Src.same 72))) (An (zr (some (Src.same 104))) (An (zr (some (Src.same 10264))) tv))))) (zr true))) (An (An (zr 27) (An (zr 1) (An (zr (x0 + 1)) (An (zr j) (An (fun (i3:Nat)=>(fun (y4:i3 < x0 + 1)=>(fun (y5:i3 ≠ j)=>(zr ([aInts (col f i3)]))))) (An (An (zr (some (Src.same 10248))) tv) (zr true))))))) (An (An (zr 3) (An (zr 1) (An (o12 hpre x0 hx0 y1 y2) (fun (i6:Nat)=>(fun (y7:i6 < 0 + List.length (col f x0))=>(o13 hpre x0 hx0 y1 y2 i6 y7)))))) tv))))))) (An (zr true) (zr true))))) (o14 hpre x0 hx0 y1 y2) (o15 hpre x0 hx0 y1 y2)
  ·refine zR [1,2,3,4] [0,8,120,72,104,10264,5002] (Ak 6 (An (An (o16 hpre x0 hx0 y1 y2) (o17 hpre x0 hx0 y1 y2)) (Ak 1 (An (o18 hpre x0 hx0 y1 y2) (Ak 1 (An (An (o19 hpre x0 hx0 y1 y2) (o20 hpre x0 hx0 y1 y2)) (Ak 2 tv))))))) ?_
   refine zR [1,2,3,4] [0,8,120,72,104,10264,5002] (Ak 1 (An (o21 hpre x0 hx0 y1 y2) (Ak 1 tv))) ?_
   exact zn (zE hE [] [(0,.same 0),(8,.same 8),(120,.same 120),(72,.same 72),(104,.same 104),(5000,.same 10264),(5002,.same 5002)] [] [0,8,72,104] (An (An (An (zr (some (Src.same 0))) (zr nilP)) (An (An (zr (some (Src.same 8))) (zr nilP)) (An (An (zr (some (Src.same 120))) (zr nilP)) (An (An (ci (o22 hpre x0 hx0 y1 y2)) (zr nilN)) tv)))) (An (An (An (zr (OB.cells 26 (cFrm f))) (zr true)) (An (An (zr (OB.cells 26 [iv 0,iv 0,nilv,nilv,nilv])) (zr true)) (An (An (zr (OB.vec 65 2 (0 + List.length (Frm.strips f)) fun (i:Nat)=>cStrip (stp f i))) (zr true)) (An (An (zr (OB.vec 46 3 (0 + List.length (Frm.pieces f)) fun (i:Nat)=>cPiece (pc f i))) (zr true)) (An (An (zr 26) (An (An (An (zr (iv (Frm.length f))) (zr nilN)) (An (An (zr (iv (Frm.slack f))) (zr nilN)) (An (zr (some (Src.same 72))) (An (zr (some (Src.same 104))) (An (zr (some (Src.same 10264))) tv))))) (zr true))) (An (An (zr 27) (An (zr 1) (An (zr (x0 + 1)) (An (zr j) (An (fun (i8:Nat)=>(fun (y9:i8 < x0 + 1)=>(fun (y10:i8 ≠ j)=>(o23 hpre x0 hx0 y1 y2 i8 y9 y10)))) (An (An (zr (some (Src.same 5002))) tv) (zr true))))))) (An (An (zr 3) (An (zr 1) (An (o24 hpre x0 hx0 y1 y2) (fun (i11:Nat)=>(fun (y12:i11 < cpLen f j x0)=>(zr ([iv (List.getD (col f j) i11 0)]))))))) tv))))))) (An (zr true) (zr true))))) (o25 hpre x0 hx0 y1 y2) (o26 hpre x0 hx0 y1 y2)
 ·refine swp_exit ?_
  refine swp_seq ?_
  refine zR [2] [8,72,104,5000,5002] (Ak 2 tv) ?_
  refine swp_ret ?_
  exact zO (ASt.mk [(2,AV.ptr 90 [])] [(90,OB.cells 26 [iv (Frm.length f),iv (Frm.slack f),AV.vec 0,AV.vec 1,AV.vec 2]),(0,OB.vec 65 2 (List.length (Frm.strips f)) fun (i:Nat)=>cStrip (stp f i)),(1,OB.vec 46 3 (List.length (Frm.pieces f)) fun (i:Nat)=>cPiece (pc f i)),(2,OB.vecx 27 1 (List.length (Frm.columns f)) (fun (i:Nat)=>[aInts (col f i)]) j [AV.vec 3]),(3,OB.vec 3 1 (cpLen f j (List.length (Frm.columns f))) fun (p:Nat)=>[iv (List.getD (col f j) p 0)])] 100) (zE hE [] [(90,.same 8),(0,.same 72),(1,.same 104),(2,.same 5000),(3,.same 5002)] [] [] (An (An (An (zr (some (Src.same 8))) (zr nilP)) tv) (An (An (An (zr 26) (An (An (An (zr (iv (Frm.length f))) (zr nilN)) (An (An (zr (iv (Frm.slack f))) (zr nilN)) (An (zr (some (Src.same 72))) (An (zr (some (Src.same 104))) (An (zr (some (Src.same 5000))) tv))))) (zr true))) (An (An (zr 65) (An (zr 2) (An (o27 hpre x0 hx0 y1) (fun (i13:Nat)=>(fun (y14:i13 < 0 + List.length (Frm.strips f))=>(zr (cStrip (stp f i13)))))))) (An (An (zr 46) (An (zr 3) (An (o28 hpre x0 hx0 y1) (fun (i15:Nat)=>(fun (y16:i15 < 0 + List.length (Frm.pieces f))=>(zr (cPiece (pc f i15)))))))) (An (An (zr 27) (An (zr 1) (An (o29 hpre x0 hx0 y1) (An (zr j) (An (fun (i17:Nat)=>(fun (y18:i17 < x0)=>(fun (y19:i17 ≠ j)=>(zr ([aInts (col f i17)]))))) (An (An (zr (some (Src.same 5002))) tv) (zr true))))))) (An (An (zr 3) (An (zr 1) (An (o30 hpre x0 hx0 y1) (fun (i20:Nat)=>(fun (y21:i20 < cpLen f j x0)=>(zr ([iv (List.getD (col f j) i20 0)]))))))) tv))))) (An (zr true) (zr true))))) (An (Ak 1 tv) (An (zr (AV.agg [iv (Frm.length f),iv (Frm.slack f),AV.vec 0,AV.vec 1,AV.vec 2])) (An (zr (some (OB.vec 65 2 (List.length (Frm.strips f)) fun (i:Nat)=>cStrip (stp f i)))) (An (zr (some (OB.vec 46 3 (List.length (Frm.pieces f)) fun (i:Nat)=>cPiece (pc f i)))) (An (zr (some (OB.vecx 27 1 (List.length (Frm.columns f)) (fun (i:Nat)=>[aInts (col f i)]) j [AV.vec 3]))) (An (zr (some (OB.vec 3 1 (cpLen f j (List.length (Frm.columns f))) fun (p:Nat)=>[iv (List.getD (col f j) p 0)]))) tv))))))
theorem to31j (f:Frm) (j:Nat) (l:List (Nat × Nat)) (hl:l.map (·.1) = [0,1,2,3]) (hnd:(l.map (·.2)).Nodup):Triple Try.prog 31 ((ou31j f j).at l):=by
 apply wo31j (l:=l) (hl:=hl) (hnd:=hnd)
 all_goals (intro hp; obtain ⟨a1,a2,a3,a4⟩:=hp)
 case o0 | o1 | o4=>omega
 case o2=>rfl
 case o3=>unfold cpLen; rw [if_neg (Nat.not_lt_zero _)]
 all_goals (intro x hx h; simp only [decide_eq_true_eq,decide_eq_false_iff_not] at h)
 case o27 | o28 | o29=>omega
 case o30=>rw [show x=f.columns.length by omega]
 all_goals (have h4:=a4 x; intro he)
 case o5 | o6 | o7 | o8 | o10 | o11 | o14 | o15 | o16 | o17 | o18 | o19 | o21 | o22 | o25 | o26=>first | omega | (simp only [inI]; omega)
 case o9=>exact (eqN_t he).symm
 case o12=>have e:=eqN_t he; subst e; rw [cpLen_self]; omega
 case o13=>intro i hi; have e:=eqN_t he; subst e; rfl
 case o20=>have:=eqN_f he; omega
 case o23 =>
  intro i hi hij
  refine catF_idx (fun k=>[aInts (col f k)]) ?_ hi
  show [AV.sl 1 (0 + (col f x).length) _] = [aInts (col f x)]
  rw [Nat.zero_add]; rfl
 case o24=>exact (cpLen_other (eqN_f he)).symm
theorem t31jo (f:Frm) (j id:Nat):Triple Try.prog 31 (s31jo f j id):=to31j f j _ rfl (by simp)
theorem w70 (f:Frm) (c:Int) (q:Piece)
  (o0:smallF f/\0<=c/\c < (↑(f.columns.length):Int)->0<=c)
  (o1:smallF f/\0<=c/\c < (↑(f.columns.length):Int)->c < (↑(f.columns.length):Int))
  (o2:smallF f/\0<=c/\c < (↑(f.columns.length):Int)->c.toNat < f.columns.length)
  (o3:smallF f/\0<=c/\c < (↑(f.columns.length):Int)->cpLen f c.toNat f.columns.length + 1<=65536)
  (o4:smallF f/\0<=c/\c < (↑(f.columns.length):Int)->0<=c)
  (o5:smallF f/\0<=c/\c < (↑(f.columns.length):Int)->c < (↑(f.columns.length):Int))
  (o6:smallF f/\0<=c/\c < (↑(f.columns.length):Int)->c.toNat < f.columns.length)
  (o7:smallF f/\0<=c/\c < (↑(f.columns.length):Int) -> ∀ (i1:Nat),i1 < f.columns.length->i1 ≠ c.toNat -> [aInts (col f i1)] = [aInts (col (putF f c.toNat q) i1)])
  (o8:smallF f/\0<=c/\c < (↑(f.columns.length):Int)->cpLen f c.toNat f.columns.length + 1=(col (putF f c.toNat q) c.toNat).length)
  (o9:smallF f/\0<=c/\c < (↑(f.columns.length):Int) -> ∀ (i4:Nat),i4 < (col (putF f c.toNat q) c.toNat).length->catF (cpLen f c.toNat f.columns.length) (fun (p:Nat)=>[iv ((col f c.toNat).getD p 0)]) (fun (j:Nat)=>List.getD [[iv (↑(f.pieces.length):Int)]] j (TI.za ti3)) i4 = [iv ((col (putF f c.toNat q) c.toNat).getD i4 0)])
  (o10:smallF f/\0<=c/\c < (↑(f.columns.length):Int)->f.pieces.length + 1<=65536)
  (o11:smallF f/\0<=c/\c < (↑(f.columns.length):Int)->f.length=(putF f c.toNat q).length)
  (o12:smallF f/\0<=c/\c < (↑(f.columns.length):Int)->f.slack=(putF f c.toNat q).slack)
  (o13:smallF f/\0<=c/\c < (↑(f.columns.length):Int)->f.strips.length=(putF f c.toNat q).strips.length)
  (o14:smallF f/\0<=c/\c < (↑(f.columns.length):Int) -> ∀ (i6:Nat),i6 < (putF f c.toNat q).strips.length->cStrip (stp f i6)=cStrip (stp (putF f c.toNat q) i6))
  (o15:smallF f/\0<=c/\c < (↑(f.columns.length):Int)->f.pieces.length + 1=(putF f c.toNat q).pieces.length)
  (o16:smallF f/\0<=c/\c < (↑(f.columns.length):Int) -> ∀ (i8:Nat),i8 < (putF f c.toNat q).pieces.length->catF f.pieces.length (fun (i:Nat)=>cPiece (pc f i)) (fun (j:Nat)=>List.getD [[iv q.lo,iv q.hi,iv q.pence]] j (TI.za ti46)) i8=cPiece (pc (putF f c.toNat q) i8))
  (o17:smallF f/\0<=c/\c < (↑(f.columns.length):Int)->f.columns.length=(putF f c.toNat q).columns.length) :
  Triple Try.prog 70 (s70 f c q):=by
 refine triple_of Try.func70 rfl Try.call70 T0_ok _ rfl rfl rfl rfl (Nat.le_of_ble_eq_true (by kernel_rfl)) (fun _ _ _ _ h=>h) ?_
 intro hpre C hC _ hE
 obtain ⟨P,w0,E0,av,hA,ro,df⟩:=C
 obtain ⟨rfl,rfl,rfl⟩:=hC
 refine swp_seq ?_
 refine zR [1,3,5,6] [0,8,16] (Ak 3 tv) ?_
 refine swp_seq ?_
 refine zC ([(1,CallSpec.eq (c70 f c q 32) [true])]) [1,3,5,6,7] [0,8,16,40,32,33,34,35] (Ak 1 (An (An (An (zr (AV.agg (cFrm f))) tv) (An (t31jo (f) c.toNat (32)) (An hpre.1 (Ak 1 (fun (i0:Env)=>tv))))) (Ak 2 tv))) ?_
 refine swp_seq ?_
 refine zR [5,6,7] [8,16,40,32,33,34,152] (Ak 6 (An (An (o0 hpre) (o1 hpre)) (An (An (zr c.toNat) (An (o2 hpre) tv)) (Ak 4 (An (o3 hpre) (An (An (o4 hpre) (o5 hpre)) (An (An (zr c.toNat) (An (o6 hpre) tv)) tv))))))) ?_
 refine swp_seq ?_
 refine swp_ent (zE (st2:=ASt.mk [(5,AV.ptr 8 []),(6,AV.ptr 16 []),(7,AV.ptr 40 [])] [(34,OB.vec 27 1 f.columns.length fun (i:Nat)=>[aInts (col (putF f c.toNat q) i)]),(8,OB.cells 46 (cPiece q)),(16,OB.cells 26 [iv 0,iv 0,nilv,nilv,nilv]),(40,OB.cells 26 [iv f.length,iv f.slack,AV.vec 32,AV.vec 33,AV.vec 34]),(32,OB.vec 65 2 f.strips.length fun (i:Nat)=>cStrip (stp f i)),(33,OB.vec 46 3 f.pieces.length fun (i:Nat)=>cPiece (pc f i))] 176) hE [152] [(8,.same 8),(16,.same 16),(40,.same 40),(32,.same 32),(33,.same 33),(34,.same 34)] [] [8,16,32,33] (An (An (An (zr (some (Src.same 8))) (zr nilP)) (An (An (zr (some (Src.same 16))) (zr nilP)) (An (An (zr (some (Src.same 40))) (zr nilP)) tv))) (An (An (An (zr 27) (An (zr 1) (An (zr f.columns.length) (An (fun (i1:Nat)=>(fun (y2:i1 < f.columns.length)=>(fun (y3:i1 ≠ c.toNat)=>(o7 hpre i1 y2 y3)))) (An (An (An (zr 1) (An (o8 hpre) (fun (i4:Nat)=>(fun (y5:i4 < (col (putF f c.toNat q) c.toNat).length)=>(o9 hpre i4 y5))))) tv) (An (zr true) (zr true))))))) (An (An (zr (OB.cells 46 (cPiece q))) (zr true)) (An (An (zr (OB.cells 26 [iv 0,iv 0,nilv,nilv,nilv])) (zr true)) (An (An (zr 26) (An (An (An (zr (iv f.length)) (zr nilN)) (An (An (zr (iv f.slack)) (zr nilN)) (An (zr (some (Src.same 32))) (An (zr (some (Src.same 33))) (An (zr (some (Src.same 34))) tv))))) (zr true))) (An (An (zr (OB.vec 65 2 f.strips.length fun (i:Nat)=>cStrip (stp f i))) (zr true)) (An (An (zr (OB.vec 46 3 f.pieces.length fun (i:Nat)=>cPiece (pc f i))) (zr true)) tv)))))) (An (zr true) (zr true))))) ?_
 refine zR [6,7] [16,40,32,208,34] (Ak 4 (An (o10 hpre) (Ak 2 tv))) ?_
 refine swp_seq ?_
 refine zR [6] [16,32,208,34] (Ak 2 tv) ?_
 refine swp_ret ?_
 exact zT [32,208,34] (An (Ak 1 tv) (An (An (An (ci (o11 hpre)) (zr nilN)) (An (An (ci (o12 hpre)) (zr nilN)) (An (An (zr 2) (An (o13 hpre) (fun (i6:Nat)=>(fun (y7:i6 < (putF f c.toNat q).strips.length)=>(o14 hpre i6 y7))))) (An (An (zr 3) (An (o15 hpre) (fun (i8:Nat)=>(fun (y9:i8 < (putF f c.toNat q).pieces.length)=>(o16 hpre i8 y9))))) (An (An (zr 1) (An (o17 hpre) (fun (i10:Nat)=>(fun (y11:i10 < (putF f c.toNat q).columns.length)=>(zr ([aInts (col (putF f c.toNat q) i10)])))))) tv))))) (An (zr true) (An (zr true) (zr true)))))
theorem t70 (f:Frm) (c:Int) (q:Piece):Triple Try.prog 70 (s70 f c q):=by
 apply w70
 all_goals (rintro ⟨hp,h1,h2⟩; have hn:c.toNat < f.columns.length:=by omega)
 all_goals (have hcl:cpLen f c.toNat f.columns.length=(col f c.toNat).length:=if_pos hn)
 all_goals (have h4:=hp.2.2.2 c.toNat; have h5:=hp.2.1)
 case o3=>omega
 case o7=>intro i hi hij; rw [put_col hn,if_neg hij]
 case o8=>rw [put_col hn,if_pos rfl,List.length_append,hcl]; rfl
 case o9 =>
  intro i hi
  rw [put_col hn,if_pos rfl] at hi ⊢
  rw [List.length_append,List.length_singleton] at hi
  exact catF_one (col f c.toNat) _ 0 (fun z=>[iv z]) hcl (fun _ _=>rfl) rfl hi
 case o10=>omega
 case o15=>exact (put_pieces _ _ _).symm
 case o16=>intro i hi; rw [put_pieces] at hi; exact catF_one f.pieces q default cPiece rfl (fun _ _=>rfl) rfl hi
 case o17=>exact (put_len _ _ _).symm
 all_goals (first | omega | rfl | (intro i hi; rfl))
theorem w80 (f:Frm) (c:Int) (q:Piece)
  (o0:smallF f/\(okFrm f=true->prodF f f.strips.length<=30)->fitsF f)
  (o1:smallF f/\(okFrm f=true->prodF f f.strips.length<=30)->fitsF f)
  (o2:smallF f/\(okFrm f=true->prodF f f.strips.length<=30)->(!decide (openF f (isCol f c)=0))=true->false=takesB f c q)
  (o3:smallF f/\(okFrm f=true->prodF f f.strips.length<=30)->(!decide (openF f (isCol f c)=0))=true->openF f (isCol f c)=takesE f c q)
  (o4:smallF f/\(okFrm f=true->prodF f f.strips.length<=30)->(!decide (openF f (isCol f c)=0))=false->0<=c)
  (o5:smallF f/\(okFrm f=true->prodF f f.strips.length<=30)->(!decide (openF f (isCol f c)=0))=false->c < (↑(f.columns.length):Int))
  (o6:smallF f/\(okFrm f=true->prodF f f.strips.length<=30)->(!decide (openF f (isCol f c)=0))=false->fitsF (putF f c.toNat q))
  (o7:smallF f/\(okFrm f=true->prodF f f.strips.length<=30)->(!decide (openF f (isCol f c)=0))=false->(!decide (checkF (putF f c.toNat q)=0))=true->false=takesB f c q)
  (o8:smallF f/\(okFrm f=true->prodF f f.strips.length<=30)->(!decide (openF f (isCol f c)=0))=false->(!decide (checkF (putF f c.toNat q)=0))=true->1=takesE f c q)
  (o9:smallF f/\(okFrm f=true->prodF f f.strips.length<=30)->(!decide (openF f (isCol f c)=0))=false->(!decide (checkF (putF f c.toNat q)=0))=false->fitsF (putF f c.toNat q))
  (o10:smallF f/\(okFrm f=true->prodF f f.strips.length<=30)->(!decide (openF f (isCol f c)=0))=false->(!decide (checkF (putF f c.toNat q)=0))=false->okFrm (putF f c.toNat q)=true->prodF (putF f c.toNat q) (putF f c.toNat q).strips.length<=30)
  (o11:smallF f/\(okFrm f=true->prodF f f.strips.length<=30)->(!decide (openF f (isCol f c)=0))=false->(!decide (checkF (putF f c.toNat q)=0))=false->decide (stripsE (putF f c.toNat q)=0)=takesB f c q)
  (o12:smallF f/\(okFrm f=true->prodF f f.strips.length<=30)->(!decide (openF f (isCol f c)=0))=false->(!decide (checkF (putF f c.toNat q)=0))=false->0=takesE f c q) :
  Triple Try.prog 80 (s80 f c q):=by
 refine triple_of Try.func80 rfl Try.call80 T0_ok _ rfl rfl rfl rfl (Nat.le_of_ble_eq_true (by kernel_rfl)) (fun _ _ _ _ h=>h) ?_
 intro hpre C hC _ hE
 obtain ⟨P,w0,E0,av,hA,ro,df⟩:=C
 obtain ⟨rfl,rfl,rfl⟩:=hC
 refine swp_seq ?_
 refine zR [1,3,5] [0,8] (Ak 4 tv) ?_
 refine swp_seq ?_
 refine swp_seq ?_
 refine zC ([(3,CallSpec.eq (s69 f c) [true,true]),(4,CallSpec.eq (s91 f (isCol f c)) [true,true])]) [1,3,5,8] [0,8] (Ak 3 (An (An (An (zr (AV.agg (cFrm f))) (An (zr (iv c)) tv)) (An (t69 (f) (c)) (An (o0 hpre) (Ak 1 (fun (i0:Env)=>tv))))) (An (An (An (zr (AV.agg (cFrm f))) (An (zr (bv (isCol f c))) tv)) (An (t91 (f) (isCol f c)) (An (o1 hpre) (Ak 1 (fun (i1:Env)=>tv))))) (Ak 1 tv)))) ?_
 refine swp_seq ?_
 refine zR [1,3,5,8,16] [0,8] (Ak 2 tv) ?_
 refine zI (!decide (openF f (isCol f c)=0)) (fun y2 => ?_) (fun y2 => ?_)
 ·refine swp_seq ?_
  refine zR [6,7] [] (Ak 3 tv) ?_
  refine swp_ret ?_
  exact zT [] (An (Ak 2 tv) (An (An (An (cb (o2 hpre y2)) (zr nilN)) (An (An (ci (o3 hpre y2)) (zr nilN)) tv)) (An (zr true) (An (zr true) (zr true)))))
 ·refine swp_skip ?_
  refine swp_seq ?_
  refine zC ([(3,CallSpec.eq (s70 f c q) [true,true,true])]) [9] [128] (Ak 3 (An (An (An (zr (AV.agg (cFrm f))) (An (zr (iv c)) (An (zr (AV.agg (cPiece q))) tv))) (An (t70 (f) (c) (q)) (An (An hpre.1 (An (o4 hpre y2) (o5 hpre y2))) (Ak 1 (fun (i3:Env)=>tv))))) (Ak 2 tv))) ?_
  refine swp_seq ?_
  refine swp_seq ?_
  refine zC ([(1,CallSpec.eq (s35 (putF f c.toNat q)) [true])]) [9,24] [128] (Ak 1 (An (An (An (zr (AV.agg (cFrm (putF f c.toNat q)))) tv) (An (t35 (putF f c.toNat q)) (An (o6 hpre y2) (Ak 1 (fun (i4:Env)=>tv))))) (Ak 1 tv))) ?_
  refine zI (!decide (checkF (putF f c.toNat q)=0)) (fun y5 => ?_) (fun y5 => ?_)
  ·refine swp_seq ?_
   refine zR [6,7] [] (Ak 2 tv) ?_
   refine swp_ret ?_
   exact zT [] (An (Ak 2 tv) (An (An (An (cb (o7 hpre y2 y5)) (zr nilN)) (An (An (ci (o8 hpre y2 y5)) (zr nilN)) tv)) (An (zr true) (An (zr true) (zr true)))))
  ·refine swp_skip ?_
   refine swp_seq ?_
   refine zC ([(1,CallSpec.eq (s122 (putF f c.toNat q)) [true])]) [6,7] [] (Ak 1 (An (An (An (zr (AV.agg (cFrm (putF f c.toNat q)))) tv) (An (t122 (putF f c.toNat q)) (An (An (o9 hpre y2 y5) (fun (y6:okFrm (putF f c.toNat q)=true)=>(o10 hpre y2 y5 y6))) (Ak 1 (fun (i7:Env)=>tv))))) (Ak 2 tv))) ?_
   refine swp_ret ?_
   exact zT [] (An (Ak 2 tv) (An (An (An (cb (o11 hpre y2 y5)) (zr nilN)) (An (An (ci (o12 hpre y2 y5)) (zr nilN)) tv)) (An (zr true) (An (zr true) (zr true)))))
theorem t80 (f:Frm) (c:Int) (q:Piece):Triple Try.prog 80 (s80 f c q):=by
 apply w80
 all_goals (rintro ⟨hp,hpr⟩)
 case o0 | o1=>exact small_fits hp
 all_goals (intro h)
 case o2=>have e:=gate_bad h; simp [takesB,takesG,e]
 case o3=>have e:=gate_bad h; unfold takesE; rw [e]; rfl
 all_goals (obtain ⟨e1,e0,e2,e3,e4⟩:=gate_ok h; have hc:=isCol_get e0; have hn:c.toNat < f.columns.length:=by omega)
 case o4=>exact hc.1
 case o5=>exact hc.2
 case o6=>exact small_fits (put_small e3 hn q)
 all_goals (intro hk)
 case o7=>have e:=chk_bad hk; unfold takesB takesG; rw [e,Bool.and_false,Bool.false_and]
 case o8=>have e:=chk_bad hk; unfold takesE; rw [if_pos (by rw [e1,e0]; rfl),e]; rfl
 case o9=>exact small_fits (put_small e3 hn q)
 case o10=>intro _; rw [same_prod f (putF f c.toNat q) rfl]; exact hpr e1
 all_goals (have e:=chk_ok hk)
 case o11=>unfold takesB takesG stripsE; rw [e1,e0,e,if_pos rfl]; cases (wholeP (putF f c.toNat q) 0).isSome <;> rfl
 case o12=>unfold takesE; rw [if_pos (by rw [e1,e0]; rfl),e]; rfl
end Go.Ab
namespace Go.Sh
structure Nar where
 piece:Int
 lo:Int
 hi:Int
 one:Int
 other:Int
end Go.Sh
namespace Go.En
open Go Go.Ab Go.Sh
end Go.En
namespace Go.Ab
open Go Go.RowKit Go.Proofs Go.Sh Go.En
def e5 (f:Frm) (c:Int) (set:List Int):List (Nat × OB):=[(112,.cells 26 (cFrm f))]
end Go.Ab
namespace Go.Ab
open Go Go.RowKit Go.Proofs Go.Sh Go.En
theorem huge_small {f:Frm} (h:hugeF f=false):smallF f:=by
 unfold hugeF at h
 simp only [Bool.or_eq_false_iff,decide_eq_false_iff_not,List.any_eq_false] at h
 obtain ⟨⟨⟨h1,h2⟩,h3⟩,h4⟩:=h
 refine ⟨by omega,by omega,by omega,fun i => ?_⟩
 by_cases hi:i < f.columns.length
 ·have:=h4 _ (getD_mem f.columns [] hi)
  simp only [decide_eq_true_eq] at this
  show (f.columns.getD i []).length<=64
  omega
 ·have:col f i = []:=getD_ge _ _ (by omega)
  rw [this]; exact Nat.zero_le _
end Go.Ab
namespace Go.Sh
open Go.Ab
variable {f:Frm}
theorem far_prod (h:farF f=false) (h2:okFrm f=true):prodF f f.strips.length<=30:=by
 unfold farF at h
 rw [h2] at h
 simp only [Bool.or_eq_false_iff,Bool.true_and,decide_eq_false_iff_not] at h
 omega
theorem lockR_ok (f:Frm):okLay (lockR f):=by
 unfold lockR
 cases h:okFrm f with
 | false=>exact ⟨Nat.zero_le _,fun i=>⟨by simp,fun q=>⟨by simp,by simp⟩⟩⟩
 | true =>
  rw [if_pos rfl]
  cases e:wholeP f 0 with
  | none=>exact ⟨Nat.zero_le _,fun i=>⟨by simp [layS],fun q=>⟨by simp [layS],by simp [layS]⟩⟩⟩
  | some x=>exact okLay_of (sound_of h) (whole_some e).1
end Go.Sh
namespace Go.Ab
open Go Go.RowKit Go.Proofs Go.Sh Go.En
def e6 (f:Frm):List (Nat × OB):=[(48,.cells 26 (cFrm f))]
def s17 (f:Frm) (c:Int) (q:Piece):CallSpec:={ args:=[vFrm f,iv c,.agg (cPiece q)],res:=bv true,pre:=fitsF f }
def c17 (f:Frm) (c:Int) (q:Piece) (id:Nat):CallSpec:=s31o f id
end Go.Ab
namespace Go.Ab
open Go Go.RowKit Go.Proofs Go.Sh Go.En
theorem far_small {f:Frm} (h:farF f=false):smallF f:=by
 unfold farF at h
 rw [Bool.or_eq_false_iff] at h
 exact huge_small h.1
theorem w17 (f:Frm) (c:Int) (q:Piece)
  (o0:fitsF f->farF f=false->smallF f)
  (o1:fitsF f->farF f=false->smallF f)
  (o2:fitsF f->farF f=false->okFrm f=true->prodF f f.strips.length<=30)
  (o3:fitsF f->farF f=false->smallF f)
  (o4:fitsF f->farF f=false->okFrm f=true->prodF f f.strips.length<=30)
  (o5:fitsF f->farF f=false->(!decide (stripsN f=stripsN f))=false->(!!decide (stripsN f=stripsN f))=true)
  (o6:fitsF f->farF f=false->(!bif !decide (stripsN f=stripsN f) then true else !decide (stripsE f=stripsE f))=true->(lockR f).length<=64)
  (o7:fitsF f->farF f=false->(!bif !decide (stripsN f=stripsN f) then true else !decide (stripsE f=stripsE f))=true -> ∀ (i32:Nat),((lockR f).getD i32 []).length<=64)
  (o8:fitsF f->farF f=false->(bif !decide (stripsN f=stripsN f) then true else !decide (stripsE f=stripsE f))=false->(!bif !decide (stripsN f=stripsN f) then true else !decide (stripsE f=stripsE f))=true)
  (o9:fitsF f->farF f=false->(bif bif !decide (stripsN f=stripsN f) then true else !decide (stripsE f=stripsE f) then true else false)=false->(!bif bif !decide (stripsN f=stripsN f) then true else !decide (stripsE f=stripsE f) then true else false)=true)
  (o10:fitsF f->farF f=false->(bif bif bif !decide (stripsN f=stripsN f) then true else !decide (stripsE f=stripsE f) then true else false then true else !decide (stripsE f=stripsE f))=true->false=true)
  (o11:fitsF f->farF f=false->(bif bif bif !decide (stripsN f=stripsN f) then true else !decide (stripsE f=stripsE f) then true else false then true else !decide (stripsE f=stripsE f))=false->smallF f)
  (o12:fitsF f->farF f=false->(bif bif bif !decide (stripsN f=stripsN f) then true else !decide (stripsE f=stripsE f) then true else false then true else !decide (stripsE f=stripsE f))=false->smallF f)
  (o13:fitsF f->farF f=false->(bif bif bif !decide (stripsN f=stripsN f) then true else !decide (stripsE f=stripsE f) then true else false then true else !decide (stripsE f=stripsE f))=false->okFrm f=true->prodF f f.strips.length<=30)
  (o14:fitsF f->farF f=false->(bif bif bif !decide (stripsN f=stripsN f) then true else !decide (stripsE f=stripsE f) then true else false then true else !decide (stripsE f=stripsE f))=false->(bif takesB f c q == takesB f c q then decide (takesE f c q=takesE f c q) else false)=true->smallF f)
  (o15:fitsF f->farF f=false->(bif bif bif !decide (stripsN f=stripsN f) then true else !decide (stripsE f=stripsE f) then true else false then true else !decide (stripsE f=stripsE f))=false->(bif bif bif takesB f c q == takesB f c q then decide (takesE f c q=takesE f c q) else false then true else false then true else false)=true) :
  Triple Try.prog 17 (s17 f c q):=by
 refine triple_of Try.func17 rfl Try.call17 T0_ok _ rfl rfl rfl rfl (Nat.le_of_ble_eq_true (by kernel_rfl)) (fun _ _ _ _ h=>h) ?_
 intro hpre C hC _ hE
 obtain ⟨P,w0,E0,av,hA,ro,df⟩:=C
 obtain ⟨rfl,rfl,rfl⟩:=hC
 refine swp_seq ?_
 refine zR [1,3,5] [0,8] (Ak 3 tv) ?_
 refine swp_seq ?_
 refine swp_seq ?_
 refine zC ([(1,CallSpec.eq (s41 f) [true])]) [1,3,5,19] [0,8] (Ak 1 (An (An (An (zr (AV.agg (cFrm f))) tv) (An (t41 (f)) (An hpre (Ak 1 (fun (i0:Env)=>tv))))) tv)) ?_
 refine zI (farF f) (fun y1 => ?_) (fun y1 => ?_)
 ·refine swp_seq ?_
  refine zC ([(0,CallSpec.eq s20 [])]) [6] [] (An (Ak 1 (An (t20) (Ak 2 (fun (i2:Env)=>tv)))) (Ak 1 tv)) ?_
  refine swp_ret ?_
  exact zT [] (An (Ak 1 tv) (An (An (zr (bv true)) (zr nilN)) (An (zr true) (An (zr true) (zr true)))))
 ·refine swp_skip ?_
  refine swp_seq ?_
  refine zC ([(1,CallSpec.eq (c17 f c q 48) [true])]) [1,3,5,7] [0,8,56,48,49,50] (Ak 1 (An (An (An (zr (AV.agg (cFrm f))) tv) (An (t31o (f) (48)) (An (o0 hpre y1) (Ak 1 (fun (i3:Env)=>tv))))) (Ak 2 tv))) ?_
  refine swp_seq ?_
  refine swp_ent (zE (st2:=ASt.mk [(1,iv c),(3,AV.ptr 0 []),(5,AV.ptr 8 []),(7,AV.ptr 56 [])] [(56,OB.cells 26 (cFrm f)),(0,OB.cells 26 (cFrm f)),(8,OB.cells 46 (cPiece q))] 72) hE [48,49,50] [(0,.same 0),(8,.same 8),(56,.same 56)] [1] [0,8] (An (An (An (zr (iv c)) (zr true)) (An (An (zr (some (Src.same 0))) (zr nilP)) (An (An (zr (some (Src.same 8))) (zr nilP)) (An (An (zr (some (Src.same 56))) (zr nilP)) tv)))) (An (An (An (zr 26) (An (An (An (zr (iv f.length)) (zr nilN)) (An (An (zr (iv f.slack)) (zr nilN)) (An (An (zr 2) (An (zr f.strips.length) (fun (i4:Nat)=>(fun (y5:i4 < f.strips.length)=>(zr (cStrip (stp f i4))))))) (An (An (zr 3) (An (zr f.pieces.length) (fun (i6:Nat)=>(fun (y7:i6 < f.pieces.length)=>(zr (cPiece (pc f i6))))))) (An (An (zr 1) (An (zr f.columns.length) (fun (i8:Nat)=>(fun (y9:i8 < f.columns.length)=>(zr ([aInts (col f i8)])))))) tv))))) (zr true))) (An (An (zr (OB.cells 26 (cFrm f))) (zr true)) (An (An (zr (OB.cells 46 (cPiece q))) (zr true)) tv))) (An (zr true) (zr true))))) ?_
  refine zC ([(1,CallSpec.eq (s59 f) [true])]) [1,3,5,7,8,9] [0,8,56] (Ak 1 (An (An (An (zr (AV.agg (cFrm f))) tv) (An (t59 (f)) (An (o1 hpre y1) (Ak 1 (fun (i10:Env)=>tv))))) (Ak 5 tv))) ?_
  refine swp_seq ?_
  refine zC ([(1,CallSpec.eq (s77 f) [true])]) [1,3,5,7,8,9,10,11] [0,8,56] (Ak 1 (An (An (An (zr (AV.agg (cFrm f))) tv) (An (t77 (f)) (An (An hpre (fun (y11:okFrm f=true)=>(o2 hpre y1 y11))) (Ak 1 (fun (i12:Env)=>tv))))) (Ak 5 tv))) ?_
  refine swp_seq ?_
  refine zC ([(1,CallSpec.eq (s60 f) [true])]) [1,3,5,7,8,9,10,11,12,13] [0,8,56] (Ak 1 (An (An (An (zr (AV.agg (cFrm f))) tv) (An (t60 (f)) (An (o3 hpre y1) (Ak 1 (fun (i13:Env)=>tv))))) (Ak 5 tv))) ?_
  refine swp_seq ?_
  refine zC ([(1,CallSpec.eq (s78 f) [true])]) [1,3,5,7,8,9,10,11,12,13,14,15] [0,8,56] (Ak 1 (An (An (An (zr (AV.agg (cFrm f))) tv) (An (t78 (f)) (An (An hpre (fun (y14:okFrm f=true)=>(o4 hpre y1 y14))) (Ak 1 (fun (i15:Env)=>tv))))) (Ak 5 tv))) ?_
  refine swp_seq ?_
  refine swp_seq ?_
  refine zC ([(11,CallSpec.eq (s79 (lockR f)) [false,false])]) [1,3,5,7,61] [0,8,56] (Ak 4 (An (fun (y16:(!!decide (stripsN f=stripsN f))=true)=>(An (Ak 1 tv) tv)) (An (fun (y17:(!!decide (stripsN f=stripsN f))=true)=>(An (Ak 1 tv) tv)) (An (fun (y18:(!!decide (stripsN f=stripsN f))=true)=>(An (An (fun (y19:(!!decide (stripsN f=stripsN f))=true)=>y18) (An (fun (y20:(!!decide (stripsN f=stripsN f))=true)=>y18) tv)) tv)) (An (An (fun (y21:(!decide (stripsN f=stripsN f))=true)=>tv) (fun (y22:(!decide (stripsN f=stripsN f))=false)=>(o5 hpre y1 y22))) (Ak 1 (An (fun (y23:(!bif !decide (stripsN f=stripsN f) then true else !decide (stripsE f=stripsE f))=true)=>(An (Ak 1 tv) tv)) (An (fun (y24:(!bif !decide (stripsN f=stripsN f) then true else !decide (stripsE f=stripsE f))=true)=>(An (Ak 1 tv) tv)) (An (fun (y25:(!bif !decide (stripsN f=stripsN f) then true else !decide (stripsE f=stripsE f))=true)=>(An (Ak 1 (An (fun (y26:(!bif !decide (stripsN f=stripsN f) then true else !decide (stripsE f=stripsE f))=true)=>y25) (An (fun (y27:(!bif !decide (stripsN f=stripsN f) then true else !decide (stripsE f=stripsE f))=true)=>y25) tv))) (An (An (An (zr 1) (An (zr (lockR f).length) (fun (i28:Nat)=>(fun (y29:i28 < (lockR f).length)=>(zr ([aInts ((lockR f).getD i28 [])])))))) (An (An (zr 1) (An (zr (lockR f).length) (fun (i30:Nat)=>(fun (y31:i30 < (lockR f).length)=>(zr ([aInts ((lockR f).getD i30 [])])))))) tv)) (An (t79 (lockR f)) (An (An (o6 hpre y1 y25) (fun (i32:Nat)=>(o7 hpre y1 y25 i32))) (Ak 1 (fun (i33:Env)=>tv))))))) (An (fun (y34:(!bif !decide (stripsN f=stripsN f) then true else !decide (stripsE f=stripsE f))=true)=>(An (An (fun (y35:(!bif !decide (stripsN f=stripsN f) then true else !decide (stripsE f=stripsE f))=true)=>y34) tv) tv)) (An (An (fun (y36:(bif !decide (stripsN f=stripsN f) then true else !decide (stripsE f=stripsE f))=true)=>tv) (fun (y37:(bif !decide (stripsN f=stripsN f) then true else !decide (stripsE f=stripsE f))=false)=>(o8 hpre y1 y37))) (Ak 1 (An (fun (y38:(!bif bif !decide (stripsN f=stripsN f) then true else !decide (stripsE f=stripsE f) then true else false)=true)=>(An (Ak 1 tv) tv)) (An (fun (y39:(!bif bif !decide (stripsN f=stripsN f) then true else !decide (stripsE f=stripsE f) then true else false)=true)=>(An (Ak 1 tv) tv)) (An (fun (y40:(!bif bif !decide (stripsN f=stripsN f) then true else !decide (stripsE f=stripsE f) then true else false)=true)=>(An (An (fun (y41:(!bif bif !decide (stripsN f=stripsN f) then true else !decide (stripsE f=stripsE f) then true else false)=true)=>y40) (An (fun (y42:(!bif bif !decide (stripsN f=stripsN f) then true else !decide (stripsE f=stripsE f) then true else false)=true)=>y40) tv)) tv)) (An (An (fun (y43:(bif bif !decide (stripsN f=stripsN f) then true else !decide (stripsE f=stripsE f) then true else false)=true)=>tv) (fun (y44:(bif bif !decide (stripsN f=stripsN f) then true else !decide (stripsE f=stripsE f) then true else false)=false)=>(o9 hpre y1 y44))) tv)))))))))))))))) ?_
  refine zI (bif bif bif !decide (stripsN f=stripsN f) then true else !decide (stripsE f=stripsE f) then true else false then true else !decide (stripsE f=stripsE f)) (fun y45 => ?_) (fun y45 => ?_)
  ·refine swp_seq ?_
   refine zR [6] [] (Ak 1 tv) ?_
   refine swp_ret ?_
   exact zT [] (An (Ak 1 tv) (An (An (cb (o10 hpre y1 y45)) (zr nilN)) (An (zr true) (An (zr true) (zr true)))))
  ·refine swp_skip ?_
   refine swp_seq ?_
   refine zC ([(3,CallSpec.eq (s71 f c q) [true,true,true])]) [1,3,5,7,16,9] [0,8,56] (Ak 3 (An (An (An (zr (AV.agg (cFrm f))) (An (zr (iv c)) (An (zr (AV.agg (cPiece q))) tv))) (An (t71 (f) (c) (q)) (An (o11 hpre y1 y45) (Ak 1 (fun (i46:Env)=>tv))))) (Ak 5 tv))) ?_
   refine swp_seq ?_
   refine zC ([(3,CallSpec.eq (s80 f c q) [true,true,true])]) [3,7,16,9,17,11] [0,56] (Ak 3 (An (An (An (zr (AV.agg (cFrm f))) (An (zr (iv c)) (An (zr (AV.agg (cPiece q))) tv))) (An (t80 (f) (c) (q)) (An (An (o12 hpre y1 y45) (fun (y47:okFrm f=true)=>(o13 hpre y1 y45 y47))) (Ak 1 (fun (i48:Env)=>tv))))) (Ak 5 tv))) ?_
   refine swp_seq ?_
   refine zC ([(11,CallSpec.eq (s39 f) [true,true]),(14,CallSpec.eq s20 [])]) [6] [] (Ak 4 (An (fun (y49:(takesB f c q == takesB f c q)=true)=>(An (Ak 1 tv) tv)) (An (fun (y50:(takesB f c q == takesB f c q)=true)=>(An (Ak 1 tv) tv)) (An (fun (y51:(takesB f c q == takesB f c q)=true)=>(An (An (fun (y52:(takesB f c q == takesB f c q)=true)=>y51) (An (fun (y53:(takesB f c q == takesB f c q)=true)=>y51) tv)) tv)) (An (An (fun (y54:(takesB f c q == takesB f c q)=true)=>y54) (fun (y55:(takesB f c q == takesB f c q)=false)=>tv)) (Ak 1 (An (fun (y56:(bif takesB f c q == takesB f c q then decide (takesE f c q=takesE f c q) else false)=true)=>(An (Ak 1 tv) tv)) (An (fun (y57:(bif takesB f c q == takesB f c q then decide (takesE f c q=takesE f c q) else false)=true)=>(An (Ak 1 tv) tv)) (An (fun (y58:(bif takesB f c q == takesB f c q then decide (takesE f c q=takesE f c q) else false)=true)=>(An (Ak 1 (An (fun (y59:(bif takesB f c q == takesB f c q then decide (takesE f c q=takesE f c q) else false)=true)=>y58) (An (fun (y60:(bif takesB f c q == takesB f c q then decide (takesE f c q=takesE f c q) else false)=true)=>y58) tv))) (An (An (zr (AV.agg (cFrm f))) (An (zr (AV.agg (cFrm f))) tv)) (An (t39 (f)) (An (o14 hpre y1 y45 y58) (Ak 1 (fun (i61:Env)=>tv))))))) (An (An (fun (y62:(bif takesB f c q == takesB f c q then decide (takesE f c q=takesE f c q) else false)=true)=>y62) (fun (y63:(bif takesB f c q == takesB f c q then decide (takesE f c q=takesE f c q) else false)=false)=>tv)) (Ak 1 (An (fun (y64:(bif bif takesB f c q == takesB f c q then decide (takesE f c q=takesE f c q) else false then true else false)=true)=>(An (Ak 1 tv) (Ak 1 (An (t20) (Ak 2 (fun (i65:Env)=>tv)))))) (An (An (fun (y66:(bif bif takesB f c q == takesB f c q then decide (takesE f c q=takesE f c q) else false then true else false)=true)=>y66) (fun (y67:(bif bif takesB f c q == takesB f c q then decide (takesE f c q=takesE f c q) else false then true else false)=false)=>tv)) (Ak 1 tv)))))))))))))) ?_
   refine swp_ret ?_
   exact zT [] (An (Ak 1 tv) (An (An (cb (o15 hpre y1 y45)) (zr nilN)) (An (zr true) (An (zr true) (zr true)))))
theorem t17 (f:Frm) (c:Int) (q:Piece):Triple Try.prog 17 (s17 f c q):=by
 apply w17
 all_goals (intro hp h; have hsm:=far_small h; have hok:=lockR_ok f)
 all_goals (try (first | exact hsm | (exact fun e=>far_prod h e)))
 case o6=>intro _; have:=hok.1; omega
 case o7=>intro _ i; have:=(hok.2 i).1; omega
 all_goals (simp only [decide_true,Bool.not_true,Bool.not_false,cond_true,cond_false,Bool.and_self,Bool.and_true,beq_self_eq_true])
 all_goals (repeat intro _)
 all_goals (first | exact hsm | rfl | trivial | contradiction | (exact far_prod h (by assumption)) | (exact fun e=>far_prod h e))
end Go.Ab
namespace Go.Ab
open Go Go.RowKit
def Dec (P:Program) (t:TypeId) {α:Type} (c:α->List AV) (ok:α->Prop):Prop :=
 ∀ {H:Type} (enc:TypeId × Value->H) (w:World) (E:Env) (fuel:Nat) (cs:List Value) (d:DataW H) (ps:List MemPlace),
  (∀ b,E.M b=w.heap[b]?)->DataW.trod enc P w 0 (fun _=>true) true fuel t cs=some (d,ps)->(∀ n ∈ d.weights P t,n<=reachBytes) -> ∃ a,ok a /\ ∀ o,RelL E o (c a) cs
theorem mcell_of {E:Env} {w:World} (h:∀ b,E.M b=w.heap[b]?) {a:Addr} {v:Value} (hc:w.cell? a=some v):a.spot=none/\mcell E.M a.block a.off=some v:=by
 refine ⟨World.cell?_spot hc,?_⟩
 have hs:=World.cell?_spot hc
 unfold World.cell? at hc
 unfold mcell
 rw [h]
 split at hc
 ·rename_i c t fr e
  rw [hs] at hc
  rw [e]
  simpa using hc
 ·cases hc
theorem lit_wf {n:Int} (h:(Lit.int .i64 n).wf=true) : -9223372036854775808<=n/\n<=9223372036854775807:=by
 simpa [Lit.wf,IntKind.min,IntKind.max,IntKind.signed,IntKind.bits] using h
theorem dec_int {P:Program} {t:TypeId} (ht:P.underlying t=some (.int .i64)):Dec P t (fun n=>[iv n]) (fun n => -9223372036854775808<=n/\n<=9223372036854775807):=by
 intro H enc w E fuel cs d ps _ h _
 obtain ⟨n,rfl,_,hw⟩:=DataW.trod_int ht h
 exact ⟨n,lit_wf hw,fun o => .cons (.lit _) rfl .nil⟩
theorem weightsAll_mem {H:Type} {P:Program} {e:TypeId}:∀ {l:List (DataW H)} {d:DataW H},d ∈ l -> ∀ n ∈ d.weights P e,n ∈ DataW.weightsAll P e l:=by
 intro l
 induction l with
 | nil=>intro d h; cases h
 | cons x l ih =>
  intro d h n hn
  rw [DataW.weightsAll,List.mem_append]
  rcases List.mem_cons.1 h with rfl | h
  ·exact .inl hn
  ·exact .inr (ih h n hn)
theorem dec_slice {P:Program} {t e:TypeId} {α:Type} [Inhabited α] {c:α->List AV} {ok:α->Prop} (ht:P.underlying t=some (.slice e)) {sz:Nat} (hsz:P.cellsOf e=sz) (hpos:0 < sz) (hby:0 < P.bytesOf e) (he:Dec P e c ok) :
  Dec P t (fun l:List α=>[.sl sz l.length (fun i=>c (l.getD i default))]) (fun l=>l.length<=140737488355328 /\ ∀ a,a ∈ l->ok a):=by
 intro H enc w E fuel cs d ps hE h hw
 rcases Deep.open_slice ht h with ⟨rfl,hx⟩ | ⟨a,len,cap,m,n,D,Pl,rfl,hb,hl,hm,hmm,hx,hall⟩
 ·refine ⟨[],⟨Nat.zero_le _,fun a ha=>by cases ha⟩,fun o => ?_⟩
  exact .cons (.slN _ _) rfl .nil
 ·simp only [if_true] at hmm
  subst hmm
  rw [hsz] at hall
  obtain ⟨rfl,rfl⟩:=Prod.mk.inj hx
  have hwt:∀ i,i < len -> ∀ k ∈ (D i).weights P e,k<=reachBytes:=by
   intro i hi k hk
   refine hw k ?_
   rw [DataW.weights,ht]
   refine List.mem_cons_of_mem _ (List.mem_append_left _ (weightsAll_mem (d:=D i) ?_ k hk))
   exact List.mem_map.2 ⟨i,List.mem_range.2 hi,rfl⟩
  have hlen:len<=140737488355328:=by
   have h1:(((List.range len).map D).length + ((List.range (m - len)).map fun j=>D (len + j)).length) * P.bytesOf e<=reachBytes:=by
    refine hw _ ?_
    rw [DataW.weights,ht]
    exact List.mem_cons_self ..
   simp only [List.length_map,List.length_range] at h1
   have h2:len<=(len + (m - len)) * P.bytesOf e:=Nat.le_trans (Nat.le_add_right _ _) (Nat.le_mul_of_pos_right _ hby)
   have h3:=reachBytes_lt
   omega
  obtain ⟨g,hg⟩:=Deep.choose_lt (α:=List Value) (p:=fun i cs'=>w.cells? 0 (a.add (i * sz)) sz=some cs'/\DataW.trod enc P w 0 (fun _=>true) true n e cs'=some (D i,Pl i)) hall
  have hdec:∀ i,i < len -> ∃ x,ok x /\ ∀ o,RelL E o (c x) (g i):=fun i hi=>he enc w E n (g i) (D i) (Pl i) hE (hg i (by omega)).2 (hwt i hi)
  obtain ⟨A,hA⟩:=Deep.choose_lt (α:=α) (p:=fun i x=>ok x /\ ∀ o,RelL E o (c x) (g i)) hdec
  refine ⟨(List.range len).map A,⟨by simpa using hlen,fun x hx => ?_⟩,fun o => .cons ?_ rfl .nil⟩
  ·obtain ⟨i,hi,rfl⟩:=List.mem_map.1 hx
   exact (hA i (List.mem_range.1 hi)).1
  ·rw [List.length_map,List.length_range]
   have hcell:∀ i k,i < m->k < sz -> ∃ v,(g i)[k]? = some v/\w.cell? ((a.add (i * sz)).add k)=some v:=by
    intro i k hi hk
    obtain ⟨_,hl1,hl2⟩:=World.cells?_some (hg i hi).1
    have:=hl2 k hk
    obtain ⟨v,hv⟩:∃ v,(g i)[k]? = some v:=⟨_,List.getElem?_eq_getElem (by omega)⟩
    exact ⟨v,hv,by rw [this,hv]⟩
   by_cases h0:m=0
   ·subst h0
    obtain rfl:len=0:=by omega
    exact .slZ _ _ _
   ·obtain ⟨v,_,hv⟩:=hcell 0 0 (by omega) hpos
    have hsp:=(mcell_of hE hv).1
    obtain ⟨b,off,spot⟩:=a
    obtain rfl:spot=none:=by simpa [Addr.add] using hsp
    refine .slA sz len _ b off m g hl hm (fun i hi => ?_) (fun i k hi hk => ?_) (fun i hi => ?_)
    ·exact (World.cells?_some (hg i (by omega)).1).2.1
    ·obtain ⟨v,hv1,hv2⟩:=hcell i k (by omega) hk
     rw [hv1]
     have:=(mcell_of hE hv2).2
     rw [addr_add,addr_add] at this
     exact this
    ·have:((List.range len).map A).getD i default=A i:=by
      rw [List.getD_eq_getElem?_getD,List.getElem?_map,List.getElem?_range hi]; rfl
     rw [this]
     exact (hA i hi).2 false
def DecFs (P:Program) (off fin:Nat) (fs:List Field) {α:Type} (c:α->List AV) (ok:α->Prop):Prop :=
 ∀ {H:Type} (enc:TypeId × Value->H) (w:World) (E:Env) (n:Nat) (cs:List Value) (xs:List (DataW H × List MemPlace)),
  (∀ b,E.M b=w.heap[b]?)->cs.length=fin->xs.length=fs.length->(∀ (i:Nat) (f:Field),fs[i]? = some f->DataW.trod enc P w 0 (fun _=>true) true n f.type ((cs.drop f.offset).take (P.cellsOf f.type))=xs[i]?) →
  (∀ k ∈ DataW.weightsEach P (fs.map (·.type)) (xs.map (·.1)),k<=reachBytes) -> ∃ a,ok a /\ ∀ o,RelL E o (c a) (cs.drop off)
theorem decFs_nil {P:Program} {fin:Nat}:DecFs P fin fin [] (fun _:Unit=>[]) (fun _=>True):=by
 intro H enc w E n cs xs _ hl _ _ _
 refine ⟨(),trivial,fun o => ?_⟩
 rw [List.drop_of_length_le (by omega)]
 exact .nil
theorem decFs_cons {P:Program} {off mid fin:Nat} {f:Field} {fs:List Field} {α β:Type} {c1:α->List AV} {ok1:α->Prop} {c2:β->List AV} {ok2:β->Prop} {t:TypeId} (hft:f.type=t) (ho:f.offset=off) (hm:off + P.cellsOf t=mid)
  (h1:Dec P t c1 ok1) (h2:DecFs P mid fin fs c2 ok2):DecFs P off fin (f :: fs) (fun p:α × β=>c1 p.1 ++ c2 p.2) (fun p=>ok1 p.1/\ok2 p.2):=by
 intro H enc w E n cs xs hE hl hx hall hw
 subst hft; subst ho; subst hm
 cases xs with
 | nil=>simp at hx
 | cons x xs =>
  have h0:=hall 0 f rfl
  simp only [List.getElem?_cons_zero] at h0
  obtain ⟨a,ha,hra⟩:=h1 enc w E n _ x.1 x.2 hE h0 (fun k hk=>hw k (by
   simp only [List.map_cons,DataW.weightsEach]
   exact List.mem_append_left _ hk))
  obtain ⟨b,hb,hrb⟩:=h2 enc w E n cs xs hE hl (by simpa using hx) (fun i g hg=>by
   have:=hall (i + 1) g (by simpa using hg)
   simpa using this) (fun k hk=>hw k (by
   simp only [List.map_cons,DataW.weightsEach]
   exact List.mem_append_right _ hk))
  refine ⟨(a,b),⟨ha,hb⟩,fun o => ?_⟩
  have:=(hra o).append (hrb o)
  rw [← List.drop_drop,List.take_append_drop] at this
  exact this
theorem dec_struct {P:Program} {t:TypeId} {fs:Array Field} {sz:Nat} {α:Type} {c:α->List AV} {ok:α->Prop} (ht:P.underlying t=some (.struct fs)) (hsz:P.cellsOf t=sz) (h:DecFs P 0 sz fs.toList c ok):Dec P t c ok:=by
 intro H enc w E fuel cs d ps hE hd hw
 obtain ⟨xs,n,_,hx,hl,hxl,hall⟩:=DataW.trod_struct ht hd
 obtain ⟨rfl,rfl⟩:=Prod.mk.inj hx
 obtain ⟨a,ha,hr⟩:=h enc w E n cs xs hE (by omega) (by simpa using hxl) (fun i f hf=>hall i f (by simpa using hf)) (fun k hk=>hw k (by rw [DataW.weights,ht]; exact hk))
 exact ⟨a,ha,fun o=>by simpa using hr o⟩
theorem Dec.map {P:Program} {t:TypeId} {α β:Type} {c:α->List AV} {ok:α->Prop} {c':β->List AV} {ok':β->Prop} (h:Dec P t c ok) (g:α->β) (hc:∀ a,ok a->c' (g a)=c a) (hok:∀ a,ok a->ok' (g a)):Dec P t c' ok':=by
 intro H enc w E fuel cs d ps hE hd hw
 obtain ⟨a,ha,hr⟩:=h enc w E fuel cs d ps hE hd hw
 exact ⟨g a,hok a ha,fun o=>by rw [hc a ha]; exact hr o⟩
theorem Dec.arg {P:Program} {t:TypeId} {α:Type} {c:α->List AV} {ok:α->Prop} (h:Dec P t c ok) {H:Type} {enc:TypeId × Value->H} {w:World} {E:Env} (hE:∀ b,E.M b=w.heap[b]?) {v:Value} {d:DataW H} {ps:List MemPlace}
  (hd:DataW.Trod enc P w 0 (fun _=>true) true t v d ps) (hw:∀ n ∈ d.weights P t,n<=reachBytes):∃ a,ok a /\ ∀ o,RelL E o (c a) v.cells.toList:=by
 obtain ⟨fuel,hf⟩:=hd
 exact h enc w E fuel _ d ps hE hf hw
def envOf (w:World):Env:={ M:=fun b=>w.heap[b]?,blk:=fun _=>none,hdr:=fun _=>none,fns:=fun _ _=>False }
theorem heapOK_of (P:Program) (w:World):HeapOK (calleeCtx P (envOf w) w []) (envOf w) (Heap.of []) w where
 os:=rfl
 tape:=rfl
 output:=rfl
 size:=Nat.le_refl _
 pres:=fun _ _=>rfl
 mem:=fun _ _ h=>h
 le:=Env.le.refl _
 ext:=fun _ _ h => .inl h
 own:=fun id ob h=>by cases h
 sep:=fun i j k _ h=>absurd rfl h
theorem trodAll_below {H:Type} {enc:TypeId × Value->H} {P:Program} (hl:laidOutB P=true) {W W':World} (hb:Below W.heap.size W W'):∀ {ts:List TypeId} {vs:List Value} {ds:List (DataW H)} {ps:List MemPlace},
  (∀ t ∈ ts,P.readableRec t=true/\t < P.types.size)->DataW.TrodAll enc P W 0 (fun _=>true) true ts vs ds ps->(∀ x ∈ ps,x.block < W.heap.size) →
  DataW.TrodAll enc P W' 0 (fun b=>decide (b < W.heap.size)) true ts vs ds ps:=by
 intro ts
 induction ts with
 | nil =>
  intro vs ds ps _ h _
  obtain ⟨rfl,rfl,rfl⟩:=ChangeShapes.trodAll_nil h
  exact ChangeShapes.trodAll_mk0
 | cons t ts ih =>
  intro vs ds ps hr h hlt
  obtain ⟨v,vs',d,ds',p,q,rfl,rfl,rfl,hd,hrest⟩:=ChangeShapes.trodAll_cons h
  obtain ⟨h1,h2⟩:=hr t (List.mem_cons_self ..)
  exact ⟨p,q,Below.trod hl h1 h2 hd hb (fun x hx=>hlt x (List.mem_append_left _ hx)),ih (fun t ht=>hr t (List.mem_cons_of_mem _ ht)) hrest (fun x hx=>hlt x (List.mem_append_right _ hx)),rfl⟩
theorem law_contract {P:Program} (hl:laidOutB P=true) {f:FuncId} {fn:Func} {s:ChangeSpec} (hvars:s.vars = []) {tb:TypeId} (hres:fn.resultTypes = #[tb]) (htb:P.underlying tb=some .bool)
  (hread:∀ t ∈ fn.params.toList,P.readableRec t=true/\t < P.types.size)
  {H:Type} {enc:TypeId × Value->H} {W:World} {args:Array Value} {ds gs:List (DataW H)} {before:List MemPlace}
  (hfn:ds.length=fn.params.size->s.fn H ds = { results:=[.lit (.bool true)],args:=ds })
  (hW:DataW.Whole enc P fn.params.toList s.vars false W args.toList ds gs before) {sp:CallSpec} (ht:Triple P f sp) (hp:sp.pre) (hfo:∀ E,sp.fnok E) (hin:sp.hin = []) (hout:sp.hout = []) (hr:sp.res=bv true)
  (hla:args.toList.length=sp.args.length) (hra:∀ k,Rel (envOf W) true (sp.args.getD k .any) (args.toList.getD k undef)) :
  Calls P f args W fun e W' => ∃ v,e = .returned v/\s.post enc P fn false true false false W args v W':=by
 have hok:=heapOK_of P W
 have h:=ht.2 hp (envOf W) W args.toList (hfo _) (by rw [hin]; exact hok) hla hra
 refine (h (by rw [hout]; intro p hp; cases hp)).mono fun e W' hpost => ?_
 obtain ⟨v,E',he,hh,hv,_⟩:=hpost
 rw [hr] at hv
 have hvt:v = .bool true:=by cases hv; rfl
 subst hvt
 have hb:Below W.heap.size W W':=⟨hh.os,hh.tape,hh.output,hh.size,fun k hk=>hh.pres k (by
  rintro (hc | ⟨q,hq,_⟩)
  ·exact absurd hk (Nat.not_lt.2 hc)
  ·rw [hin] at hq; cases hq)⟩
 refine ⟨_,he,?_⟩
 have hW':=hW
 obtain ⟨p,q,hA,hV,rfl,hz,hnd⟩:=hW
 rw [hvars] at hV
 obtain ⟨rfl,rfl⟩:=ChangeShapes.trodVars_none hV
 have hlen:ds.length=fn.params.size:=by
  have:∀ {ts:List TypeId} {vs:List Value} {ds:List (DataW H)} {ps:List MemPlace},DataW.TrodAll enc P W 0 (fun _=>true) true ts vs ds ps->ds.length=ts.length:=by
   intro ts
   induction ts with
   | nil=>intro vs ds ps h; obtain ⟨_,rfl,_⟩:=ChangeShapes.trodAll_nil h; rfl
   | cons t ts ih=>intro vs ds ps h; obtain ⟨_,_,_,_,_,_,rfl,rfl,rfl,_,hr⟩:=ChangeShapes.trodAll_cons h; simp [ih hr]
  simpa using this hA
 refine ⟨ds,[],p ++ [],[],p,[],hW',?_,?_,?_,hb.frame _,fun h=>by cases h⟩
 ·rw [List.append_nil,hfn hlen,hres]
  exact ChangeShapes.trodAll_mk1 (shut_bool htb true)
 ·rw [List.append_nil,hfn hlen]
  exact trodAll_below hl hb hread hA (fun x hx=>hW'.lt x (List.mem_append_left _ hx))
 ·rw [List.append_nil,hfn hlen,hvars]
  rfl
end Go.Ab
namespace Go.Ab
open Go Go.RowKit Go.Proofs Go.Sh Go.En
theorem dInt:Dec Try.prog 3 (fun n=>[iv n]) (fun n => -9223372036854775808<=n/\n<=9223372036854775807):=dec_int Try.underlying3
theorem dInts:Dec Try.prog 27 (fun l:List Int=>[aInts l]) (fun l=>l.length<=140737488355328) :=
 Dec.map (dec_slice (α:=Int) Try.underlying27 (by kernel_rfl) (by decide) (Nat.lt_of_lt_of_eq (by decide:0 < 8) (by kernel_rfl)) dInt) id (fun _ _=>rfl) (fun _ h=>h.1)
set_option maxRecDepth 100000
theorem laidOut:laidOutB Try.prog=true:=by kernel_rfl
section
variable {H:Type} {enc:TypeId × Value->H} {W:World} {base:Nat} {v:Value} {d:DataW H} {ps:List MemPlace}
theorem arg_struct {t:TypeId} {fs:Array Field} {α:Type} {c:α->List AV} {ok:α->Prop} (ht:Try.prog.underlying t=some (.struct fs)) (hD:Dec Try.prog t c ok) (hval:Value.okWide Try.prog W .any base t v) (hd:DataW.Trod enc Try.prog W 0 (fun _=>true) true t v d ps) (hw:∀ n ∈ d.weights Try.prog t,n<=reachBytes) :
  ∃ a,ok a/\Rel (envOf W) true (.agg (c a)) v:=by
 unfold Value.okWide at hval
 rw [ht] at hval
 obtain ⟨cs,rfl,_⟩:=hval
 obtain ⟨a,ha,hr⟩:=hD.arg (E:=envOf W) (fun _=>rfl) hd hw
 refine ⟨a,ha,?_⟩
 have h:=Rel.agg (hr true)
 simpa [Value.cells] using h
theorem arg_int (hval:Value.okWide Try.prog W .any base 3 v) (hd:DataW.Trod enc Try.prog W 0 (fun _=>true) true 3 v d ps):∃ n:Int,(-9223372036854775808<=n/\n<=9223372036854775807)/\Rel (envOf W) true (iv n) v:=by
 obtain ⟨n,rfl,_,_,hw⟩:=ChangeShapes.open_int Try.underlying3 hval hd
 exact ⟨n,lit_wf hw,.lit _⟩
end
theorem weights_part {H:Type} {ts:List TypeId} {ds:List (DataW H)} (h:(DataW.weightsEach Try.prog ts ds).all (· <= reachBytes)=true) {j:Nat} {t:TypeId} {d:DataW H} (ht:ts[j]? = some t) (hd:ds[j]? = some d):∀ n ∈ d.weights Try.prog t,n<=reachBytes:=by
 intro n hn
 have:=List.all_eq_true.1 h _ (DataW.weights_mem_each ht hd n hn)
 simpa using this
def ArgD (t:TypeId) (α:Type) (c:α->AV) (ok:α->Prop):Prop :=
 (Try.prog.readableRec t=true/\t < Try.prog.types.size) /\ ∀ {H:Type} {enc:TypeId × Value->H} {W:World} {base:Nat} {v:Value} {d:DataW H} {ps:List MemPlace},Value.okWide Try.prog W .any base t v->DataW.Trod enc Try.prog W 0 (fun _=>true) true t v d ps->(∀ n ∈ d.weights Try.prog t,n<=reachBytes) -> ∃ a,ok a/\Rel (envOf W) true (c a) v
abbrev i64 (n:Int):Prop := -9223372036854775808<=n/\n<=9223372036854775807
theorem argInt:ArgD 3 Int iv i64:=⟨⟨by kernel_rfl,of_decide_eq_true (by kernel_rfl)⟩,fun hv hd _=>arg_int hv hd⟩
theorem argStruct {t:TypeId} {fs:Array Field} {α:Type} {c:α->List AV} {ok:α->Prop} (ht:Try.prog.underlying t=some (.struct fs)) (hr:Try.prog.readableRec t=true/\t < Try.prog.types.size) (hD:Dec Try.prog t c ok):ArgD t α (fun a => .agg (c a)) ok:=⟨hr,fun hv hd hw=>arg_struct ht hD hv hd hw⟩
theorem law_three {f:FuncId} {fn:Func} {s:ChangeSpec} {t1 t2 t3:TypeId} {α β γ:Type} {c1:α->AV} {c2:β->AV} {c3:γ->AV} {ok1:α->Prop} {ok2:β->Prop} {ok3:γ->Prop} (h1:ArgD t1 α c1 ok1) (h2:ArgD t2 β c2 ok2) (h3:ArgD t3 γ c3 ok3)
  (hps:fn.params = #[t1,t2,t3]) (hres:fn.resultTypes = #[4]) (hvars:s.vars = []) (hfn:∀ (H:Type) (d1 d2 d3:DataW H),s.fn H [d1,d2,d3] = { results:=[.lit (.bool true)],args:=[d1,d2,d3] })
  (sp:α->β->γ->CallSpec) (ht:∀ r a b,Triple Try.prog f (sp r a b)) (hargs:∀ r a b,(sp r a b).args = [c1 r,c2 a,c3 b]) (hpre:∀ r a b,ok1 r->ok2 a->ok3 b->(sp r a b).pre)
  (hfo:∀ r a b E,(sp r a b).fnok E) (hin:∀ r a b,(sp r a b).hin = []) (hout:∀ r a b,(sp r a b).hout = []) (hr:∀ r a b,(sp r a b).res=bv true)
  {H:Type} {enc:TypeId × Value->H} {W:World} {base:Nat} {args:Array Value} {ds gs:List (DataW H)} {before:List MemPlace}
  (hval:∀ (j:Nat) t v,fn.params[j]? = some t->args[j]? = some v->Value.okWide Try.prog W .any base t v) (hW:DataW.Whole enc Try.prog fn.params.toList s.vars false W args.toList ds gs before)
  (hsz:(DataW.weightsEach Try.prog (fn.params.toList ++ s.plain.varTypes Try.prog) (ds ++ gs)).all (· <= reachBytes)=true) :
  Calls Try.prog f args W fun e W' => ∃ v,e = .returned v/\s.post enc Try.prog fn false true false false W args v W':=by
 have hW':=hW
 obtain ⟨p,q,hA,_,_,_,_⟩:=hW
 rw [hps] at hA hval hsz
 obtain ⟨v0,v1,v2,d0,d1,d2,p0,p1,p2,rfl,rfl,rfl,g0,g1,g2⟩:=ChangeShapes.trodAll_three hA
 obtain ⟨r,hr0,r0⟩:=h1.2 (hval 0 t1 v0 rfl rfl) g0 (weights_part hsz (j:=0) rfl rfl)
 obtain ⟨a,ha,r1⟩:=h2.2 (hval 1 t2 v1 rfl rfl) g1 (weights_part hsz (j:=1) rfl rfl)
 obtain ⟨b,hb,r2⟩:=h3.2 (hval 2 t3 v2 rfl rfl) g2 (weights_part hsz (j:=2) rfl rfl)
 refine law_contract laidOut hvars hres Try.underlying4 (fun t htt => ?_) (fun _=>hfn H d0 d1 d2) hW' (ht r a b) (hpre r a b hr0 ha hb) (hfo r a b) (hin r a b) (hout r a b) (hr r a b) (by rw [hargs]; rfl) (fun k => ?_)
 ·rw [hps] at htt
  have:t=t1 ∨ t=t2 ∨ t=t3:=by simpa using htt
  rcases this with rfl | rfl | rfl
  ·exact h1.1
  ·exact h2.1
  ·exact h3.1
 ·rw [hargs]
  rcases k with _ | _ | _ | k
  ·exact r0
  ·exact r1
  ·exact r2
  ·exact .any _
end Go.Ab
namespace Go.Ab
open Go Go.RowKit Go.Proofs Go.Sh Go.En
set_option maxRecDepth 100000
theorem dSpan:Dec Try.prog 36 cSpan (fun _=>True) :=
 Dec.map (dec_struct Try.underlying36 (sz:=2) (by kernel_rfl) (decFs_cons (mid:=1) rfl rfl (by kernel_rfl) dInt (decFs_cons (mid:=2) rfl rfl (by kernel_rfl) dInt decFs_nil))) (fun p=>(⟨p.1,p.2.1⟩:Span)) (fun _ _=>rfl) (fun _ _=>trivial)
theorem dStrip:Dec Try.prog 65 cStrip (fun _=>True) :=
 Dec.map (dec_struct Try.underlying65 (sz:=2) (by kernel_rfl) (decFs_cons (mid:=1) rfl rfl (by kernel_rfl) dInt (decFs_cons (mid:=2) rfl rfl (by kernel_rfl) dInt decFs_nil))) (fun p=>(⟨p.1,p.2.1⟩:Strip)) (fun _ _=>rfl) (fun _ _=>trivial)
theorem dPiece:Dec Try.prog 46 cPiece (fun _=>True) :=
 Dec.map (dec_struct Try.underlying46 (sz:=3) (by kernel_rfl) (decFs_cons (mid:=2) rfl rfl (by kernel_rfl) dSpan (decFs_cons (mid:=3) rfl rfl (by kernel_rfl) dInt decFs_nil))) (fun p=>(⟨p.1.lo,p.1.hi,p.2.1⟩:Piece)) (fun _ _=>rfl) (fun _ _=>trivial)
theorem dStrips:Dec Try.prog 22 (fun l:List Strip=>[.sl 2 l.length (fun i=>cStrip (l.getD i default))]) (fun l=>l.length<=140737488355328 /\ ∀ m,m ∈ l->True) :=
 dec_slice (α:=Strip) Try.underlying22 (by kernel_rfl) (by decide) (Nat.lt_of_lt_of_eq (by decide:0 < 16) (by kernel_rfl)) dStrip
theorem dPieces:Dec Try.prog 23 (fun l:List Piece=>[.sl 3 l.length (fun i=>cPiece (l.getD i default))]) (fun l=>l.length<=140737488355328 /\ ∀ m,m ∈ l->True) :=
 dec_slice (α:=Piece) Try.underlying23 (by kernel_rfl) (by decide) (Nat.lt_of_lt_of_eq (by decide:0 < 24) (by kernel_rfl)) dPiece
theorem dIntss:Dec Try.prog 24 (fun l:List (List Int)=>[aIntss l]) (fun l=>l.length<=140737488355328 /\ ∀ m,m ∈ l->m.length<=140737488355328) :=
 dec_slice (α:=List Int) Try.underlying24 (by kernel_rfl) (by decide) (Nat.lt_of_lt_of_eq (by decide:0 < 24) (by kernel_rfl)) dInts
theorem dFrm:Dec Try.prog 26 cFrm fitsF:=by
 refine Dec.map (dec_struct Try.underlying26 (sz:=5) (by kernel_rfl) (decFs_cons (mid:=1) rfl rfl (by kernel_rfl) dInt (decFs_cons (mid:=2) rfl rfl (by kernel_rfl) dInt (decFs_cons (mid:=3) rfl rfl (by kernel_rfl) dStrips (decFs_cons (mid:=4) rfl rfl (by kernel_rfl) dPieces (decFs_cons (mid:=5) rfl rfl (by kernel_rfl) dIntss decFs_nil)))))) (fun p=>(⟨p.1,p.2.1,p.2.2.1,p.2.2.2.1,p.2.2.2.2.1⟩:Frm)) (fun _ _=>rfl) (fun p h => ?_)
 obtain ⟨_,_,⟨h1,_⟩,⟨h2,_⟩,⟨h3,h4⟩,_⟩:=h
 refine ⟨Nat.le_trans h1 (by decide),Nat.le_trans h2 (by decide),Nat.le_trans h3 (by decide),fun i => ?_⟩
 show (p.2.2.2.2.1.getD i []).length<=_
 by_cases hi:i < p.2.2.2.2.1.length
 ·exact Nat.le_trans (h4 _ (getD_mem _ [] hi)) (by decide)
 ·rw [getD_ge _ _ (by omega)]; exact Nat.zero_le _
theorem argFrm:ArgD 26 Frm (fun f=>vFrm f) fitsF:=argStruct Try.underlying26 ⟨by kernel_rfl,of_decide_eq_true (by kernel_rfl)⟩ dFrm
theorem argPiece:ArgD 46 Piece (fun q => .agg (cPiece q)) (fun _=>True):=argStruct Try.underlying46 ⟨by kernel_rfl,of_decide_eq_true (by kernel_rfl)⟩ dPiece
end Go.Ab
namespace Go.Proofs.Ytpnmalddfpjcoaa
open Go Go.Ab Go.Sh Go.En Go.RowKit
set_option maxRecDepth 100000
theorem own:ownKnob Try.prog.godebug=none:=by kernel_rfl
def nilArgs:Array Value := #[.agg #[.int .i64 0,.int .i64 0,.slice none 0 0,.slice none 0 0,.slice none 0 0],.int .i64 0,.agg #[.int .i64 0,.int .i64 0,.int .i64 0]]
theorem lifted (os:Os) (started:os.Started) (H:Type) (enc:TypeId × Value->H) :
  ReturnsInHanded {} Try.checked os 17 .any (Rows.pagesLockSpec.pre6 enc Try.prog Try.f17 Rows.pagesLockRow.domain false) (Rows.pagesLockSpec.post enc Try.prog Try.f17 false true false false):=by
 refine returnsInHanded_of_change_sized (C:=Try.checked) own started (by kernel_rfl) Try.func17
  (ChangeSpec.witness6 (enc:=enc) (C:=Try.checked) false ⟨#[],nilArgs,[]⟩ 8 (by kernel_rfl) (by kernel_rfl) (by kernel_rfl) (by kernel_rfl)) ?_
 intro W base args ds gs before hval hW _ hsz _
 exact law_three argFrm argInt argPiece rfl rfl rfl (fun _ _ _ _=>rfl) s17 t17 (fun _ _ _=>rfl) (fun _ _ _ h0 h1 h2=>h0) (fun _ _ _ _=>trivial) (fun _ _ _=>rfl) (fun _ _ _=>rfl) (fun _ _ _=>rfl) hval hW hsz
theorem proved:Rows.PagesLockSaid :=
 OpenClaim.holds_of_wide 17 Try.f17 rfl rfl rfl rfl rfl rfl rfl ⟨rfl,rfl,rfl,rfl,rfl⟩ rfl rfl rfl rfl rfl (by kernel_rfl) Try.func17 (by kernel_rfl)
  (of_decide_eq_true (by kernel_rfl)) (by unfold Func.isWrapper; first | (rw [if_pos (by decide +kernel)]; kernel_rfl) | (rw [if_neg (by decide +kernel)]; exact ⟨rfl,rfl⟩))
  (fun os started H enc _=>lifted os started H enc)
end Go.Proofs.Ytpnmalddfpjcoaa
