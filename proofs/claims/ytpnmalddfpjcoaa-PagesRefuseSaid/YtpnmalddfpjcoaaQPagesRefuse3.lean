/- Part 3 of the proof: own library, plain forms and walks. -/
import Derived.Test.YtpnmalddfpjcoaaQPagesRefuse2
set_option linter.all false
set_option linter.deprecated false
namespace Go.Sh
open Go.Ab
theorem pre_succ (f:Frm) {c k:Nat} (h:k < (col f c).length):pre95 f c (k + 1)=pre95 f c k ++ [(col f c).getD k 0]:=by
 unfold pre95; rw [take_succ _ 0 h,List.append_assoc]
theorem pre_next (f:Frm) {c k:Nat} (h:c < f.columns.length) (hk:(col f c).length<=k):pre95 f c k=pre95 f (c + 1) 0:=by
 unfold pre95
 rw [take_succ _ [] h,List.flatten_append,List.take_of_length_le hk]
 simp [col]
theorem pre_end (f:Frm) {c:Nat} (h:f.columns.length<=c):pre95 f c 0=allC f:=by
 unfold pre95 allC; rw [List.take_of_length_le h]; simp
theorem flat_len (l:List (List Int)) (b:Nat) (h:∀ i,(l.getD i []).length<=b):l.flatten.length<=l.length * b:=by
 induction l with
 | nil=>simp
 | cons x l ih =>
  have h0:=h 0
  have h1:=ih (fun i=>h (i + 1))
  simp only [List.flatten_cons,List.length_append,List.length_cons,Nat.add_mul,Nat.one_mul] at *
  simp only [List.getD_cons_zero] at h0
  omega
theorem take_getD_le (l:List (List Int)) (b c:Nat) (h:∀ i,(l.getD i []).length<=b):∀ i,((l.take c).getD i []).length<=b:=by
 intro i
 rw [List.getD_eq_getElem?_getD,List.getElem?_take]
 split
 ·have:=h i; rwa [List.getD_eq_getElem?_getD] at this
 ·simp
theorem pre_len (f:Frm) (c k n b:Nat) (hn:f.columns.length<=n) (hb:∀ i,(col f i).length<=b):(pre95 f c k).length<=n * b + b:=by
 unfold pre95
 rw [List.length_append,List.length_take]
 have h1:=flat_len (f.columns.take c) b (take_getD_le _ _ _ hb)
 have h2:(f.columns.take c).length * b<=n * b:=Nat.mul_le_mul_right _ (by rw [List.length_take]; omega)
 have h3:=hb c
 omega
theorem all_len (f:Frm) (n b:Nat) (hn:f.columns.length<=n) (hb:∀ i,(col f i).length<=b):(allC f).length<=n * b:=by
 have h1:=flat_len f.columns b hb
 exact Nat.le_trans h1 (Nat.mul_le_mul_right _ hn)
theorem cnt_snoc (l:List Int) (x n:Int):cntL (l ++ [x]) n=cntL l n + (if x=n then 1 else 0):=by
 unfold cntL
 rw [List.filter_append,List.length_append]
 by_cases h:x=n <;> simp [h]
theorem cnt_le (l:List Int) (n:Int):0<=cntL l n/\cntL l n<=l.length:=by
 unfold cntL
 have:=List.length_filter_le (fun x=>decide (x=n)) l
 omega
theorem cnt_count (l:List Int) (n:Int):cntL l n=(l.count n:Int):=by
 unfold cntL
 rw [← List.countP_eq_length_filter]
 congr 1
theorem high_take (f:Frm) (l:List Int) {k:Nat} (h:k < l.length):highP f (l.take (k + 1))=hiStep f (highP f (l.take k)) (l.getD k 0):=by
 unfold highP; rw [take_succ _ 0 h,List.foldl_append]; rfl
theorem high_bound {f:Frm} (hs:Sound f) {l:List Int} (hl:goodL f l):∀ k,k<=l.length->0<=(highP f (l.take k)).lo/\(highP f (l.take k)).lo<=(highP f (l.take k)).hi/\(highP f (l.take k)).hi<=99 * k:=by
 intro k
 induction k with
 | zero=>intro _; exact ⟨Int.le_refl 0,Int.le_refl 0,Int.le_refl 0⟩
 | succ k ih =>
  intro h
  obtain ⟨h1,h2,h3⟩:=ih (by omega)
  obtain ⟨g1,g2⟩:=hl.2 k (by omega)
  have:=hs.piece (l.getD k 0).toNat (by omega)
  rw [high_take f l (by omega)]
  simp only [hiStep]
  omega
theorem high_bound' {f:Frm} (hs:Sound f) {l:List Int} (hl:goodL f l):0<=(highP f l).lo/\(highP f l).lo<=(highP f l).hi/\(highP f l).hi<=594:=by
 have h:=high_bound hs hl l.length (Nat.le_refl _)
 rw [List.take_of_length_le (Nat.le_refl _)] at h
 have:=hl.1
 omega
theorem col_good {f:Frm} (hs:Sound f) (c:Nat):goodL f (col f c):=⟨hs.colLen c,fun k hk=>hs.colIn c k hk⟩
theorem isSet_get {f:Frm} {set:List Int} (h:isSet f set=true):set.length=f.strips.length /\ ∀ k,k < set.length->0<=set.getD k 0/\set.getD k 0<=(stp f k).many:=by
 simp only [isSet,Bool.and_eq_true,decide_eq_true_eq,List.all_eq_true,List.mem_range,isSetAt,within_iff] at h
 exact h
theorem pt_succ (f:Frm) (set:List Int) (n:Nat):ptTo f set (n + 1)=ptTo f set n + set.getD n 0 * (stp f n).thick:=foldl_range_succ _ _ _
theorem pt_term {f:Frm} (hs:Sound f) {set:List Int} (h:isSet f set=true) {k:Nat} (hk:k < set.length):0<=set.getD k 0 * (stp f k).thick/\set.getD k 0 * (stp f k).thick<=120:=by
 obtain ⟨h1,h2⟩:=isSet_get h
 obtain ⟨g1,g2⟩:=h2 k hk
 have g3:=hs.strip k (by omega)
 refine ⟨Int.mul_nonneg g1 (by omega),?_⟩
 calc set.getD k 0 * (stp f k).thick<=4 * 30:=Int.mul_le_mul (by omega) (by omega) (by omega) (by omega)
  _=120:=by decide
theorem pt_bound {f:Frm} (hs:Sound f) {set:List Int} (h:isSet f set=true):∀ k,k<=set.length->0<=ptTo f set k/\ptTo f set k<=120 * k:=by
 intro k
 induction k with
 | zero=>intro _; exact ⟨Int.le_refl 0,Int.le_refl 0⟩
 | succ k ih =>
  intro hk
  have h1:=ih (by omega)
  have h2:=pt_term hs h (k:=k) (by omega)
  rw [pt_succ]
  omega
theorem pts_bound {f:Frm} (hs:Sound f) {set:List Int} (h:isSet f set=true):0<=pointsP f set/\pointsP f set<=360:=by
 have h1:=pt_bound hs h set.length (Nat.le_refl _)
 have h2:=(isSet_get h).1
 have h3:=hs.strips
 unfold pointsP
 omega
theorem srt_perm (f:Frm):(srt f).Perm (allC f):=List.mergeSort_perm _ _
theorem srt_len (f:Frm):(srt f).length=(allC f).length:=(srt_perm f).length_eq
def iotaI (n:Nat):List Int:=(List.range n).map (fun i:Nat=>(i:Int))
theorem iota_len (n:Nat):(iotaI n).length=n:=by simp [iotaI]
theorem iota_get {n k:Nat} (h:k < n):(iotaI n).getD k 0=(k:Int):=by
 rw [getD_lt _ _ (by rw [iota_len]; exact h)]; simp [iotaI]
theorem iota_count (n:Nat) (a:Int):(iotaI n).count a=if 0<=a/\a < n then 1 else 0:=by
 have hn:(iotaI n).Nodup:=by
  unfold iotaI
  rw [List.nodup_iff_pairwise_ne,List.pairwise_map]
  exact List.pairwise_lt_range.imp (fun h=>by omega)
 rw [hn.count]
 congr 1
 simp only [iotaI,List.mem_map,List.mem_range,eq_iff_iff]
 constructor
 ·rintro ⟨k,hk,rfl⟩; omega
 ·intro h; exact ⟨a.toNat,by omega,by omega⟩
theorem srt_iota {f:Frm} (h:okOrd f=true):srt f=iotaI f.pieces.length:=by
 simp only [okOrd,Bool.and_eq_true,List.all_eq_true,List.mem_range,decide_eq_true_eq] at h
 have hp:(allC f).Perm (iotaI f.pieces.length):=by
  rw [List.perm_iff_count]
  intro a
  rw [iota_count]
  split
  ·have:=h.1 a.toNat (by omega)
   rw [show ((a.toNat:Nat):Int)=a by omega,cnt_count] at this
   omega
  ·refine List.count_eq_zero.2 fun hm => ?_
   have:=h.2 a hm
   simp only [isPc,within_iff] at this
   omega
 refine List.Perm.eq_of_pairwise (le:=fun a b:Int=>a<=b) (fun a b _ _ h1 h2=>by omega) ?_ ?_ ((srt_perm f).trans hp)
 ·have:=List.pairwise_mergeSort (le:=fun a b:Int=>decide (a<=b)) (fun a b c h1 h2=>by simp only [decide_eq_true_eq] at *; omega) (fun a b=>by simp only [Bool.or_eq_true,decide_eq_true_eq]; omega) (allC f)
  exact this.imp (fun h=>by simpa using h)
 ·unfold iotaI
  rw [List.pairwise_map]
  exact List.pairwise_lt_range.imp (fun h=>by omega)
theorem ord_of_srt {f:Frm} (h1:(srt f).length=f.pieces.length) (h2:∀ j,j < (srt f).length->(srt f).getD j 0=(j:Int)):okOrd f=true:=by
 have he:srt f=iotaI f.pieces.length:=ext_getD 0 (by rw [h1,iota_len]) (fun j hj=>by rw [h2 j hj,iota_get (by omega)])
 have hc:∀ a,(allC f).count a=if 0<=a/\a < f.pieces.length then 1 else 0:=fun a=>by
  rw [← iota_count,← he]; exact ((srt_perm f).count_eq a).symm
 simp only [okOrd,Bool.and_eq_true,List.all_eq_true,List.mem_range,decide_eq_true_eq]
 refine ⟨fun i hi => ?_,fun x hx => ?_⟩
 ·rw [cnt_count,hc,if_pos (by omega)]; rfl
 ·have h3:=List.count_pos_iff.2 hx
  rw [hc] at h3
  simp only [isPc,within_iff]
  split at h3 <;> omega
theorem ord_not {f:Frm} {j:Nat} (h:(srt f).length ≠ f.pieces.length ∨ (j < (srt f).length/\(srt f).getD j 0 ≠ (j:Int))):okOrd f=false:=by
 cases e:okOrd f with
 | false=>rfl
 | true =>
  have he:=srt_iota e
  rcases h with h | ⟨h1,h2⟩
  ·exact absurd (by rw [he,iota_len]) h
  ·rw [he,iota_len] at h1
   exact absurd (by rw [he,iota_get h1]) h2
theorem check_bad {f:Frm} (h:okFrm f=false):checkF f=30:=by simp [checkF,h]
theorem check_good {f:Frm} (h:okFrm f=true):checkF f=0:=by simp [checkF,h]
theorem check_zero {f:Frm}:checkF f=0 ↔ okFrm f=true:=by unfold checkF; cases okFrm f <;> simp
theorem okS_zero (f:Frm):okS f 0=okHeadF f:=by simp [okS]
theorem okS_succ (f:Frm) (n:Nat):okS f (n + 1)=(okS f n && okStrip (stp f n)):=by
 unfold okS; rw [List.range_succ,List.all_append,← Bool.and_assoc]; simp
theorem okP_zero (f:Frm):okP f 0=okS f f.strips.length:=by simp [okP]
theorem okP_succ (f:Frm) (n:Nat):okP f (n + 1)=(okP f n && okPiece (pc f n)):=by
 unfold okP; rw [List.range_succ,List.all_append,← Bool.and_assoc]; simp
theorem all_range {α:Type} (l:List α) (d:α) (p:α->Bool):(List.range l.length).all (fun j=>p (l.getD j d))=l.all p:=by
 rw [Bool.eq_iff_iff]
 constructor
 ·intro h
  rw [List.all_eq_true] at h
  exact all_idx l d p (fun j hj=>h j (List.mem_range.2 hj))
 ·intro h
  rw [List.all_eq_true]
  intro j hj
  exact idx_all d h (List.mem_range.1 hj)
theorem okFrm_eq (f:Frm):okFrm f=(okP f f.pieces.length && okOrd f):=by
 unfold okFrm okP okS
 rw [← all_range f.strips default okStrip,← all_range f.pieces default okPiece]
 rfl
theorem okFrm_P {f:Frm} (h:okP f f.pieces.length=false):okFrm f=false:=by rw [okFrm_eq,h]; rfl
theorem okFrm_ord {f:Frm} (h:okOrd f=false):okFrm f=false:=by rw [okFrm_eq,h,Bool.and_false]
theorem okFrm_head {f:Frm} (h:okHeadF f=false):okFrm f=false:=by simp [okFrm,h]
theorem okFrm_strip {f:Frm} {x:Nat} (hx:x < f.strips.length) (h:okStrip (stp f x)=false):okFrm f=false:=by
 have:=not_all f.strips default okStrip hx h
 simp [okFrm,this]
theorem okFrm_piece {f:Frm} {x:Nat} (hx:x < f.pieces.length) (h:okPiece (pc f x)=false):okFrm f=false:=by
 have:=not_all f.pieces default okPiece hx h
 simp [okFrm,this]
theorem okFrm_cnt {f:Frm} {x:Nat} (hx:x < f.pieces.length) (h:cntL (allC f) x ≠ 1):okFrm f=false:=by
 refine okFrm_ord ?_
 unfold okOrd
 have:(List.range f.pieces.length).all (fun i=>decide (cntL (allC f) i=1))=false:=by
  rw [List.all_eq_false]; exact ⟨x,List.mem_range.2 hx,by simpa using h⟩
 rw [this]; rfl
theorem all_flat (l:List (List Int)) (p:Int->Bool):l.flatten.all p=l.all (fun x=>x.all p):=by
 induction l with
 | nil=>rfl
 | cons x l ih=>simp [List.all_append,ih]
theorem okFrm_in {f:Frm} {c:Nat} (hc:c < f.columns.length) (h:(col f c).all (isPc f)=false):okFrm f=false:=by
 refine okFrm_ord ?_
 unfold okOrd allC
 rw [all_flat,not_all f.columns [] (fun x=>x.all (isPc f)) hc h,Bool.and_false]
theorem okFrm_of {f:Frm} (h:okHeadF f=true) (h1:∀ j,j < f.strips.length->okStrip (stp f j)=true) (h2:∀ j,j < f.pieces.length->okPiece (pc f j)=true/\cntL (allC f) j=1) (h3:∀ j,j < f.columns.length->(col f j).all (isPc f)=true):okFrm f=true:=by
 have a:=all_idx f.strips default okStrip h1
 have b:=all_idx f.pieces default okPiece (fun j hj=>(h2 j hj).1)
 have c:=all_idx f.columns [] (fun x=>x.all (isPc f)) h3
 have d:(List.range f.pieces.length).all (fun i=>decide (cntL (allC f) i=1))=true:=by
  rw [List.all_eq_true]; intro i hi; simpa using (h2 i (List.mem_range.1 hi)).2
 simp only [okFrm,okOrd,allC,all_flat,h,a,b,c,Bool.and_self]
 simpa [allC] using d
theorem mem_col {f:Frm} {c k:Nat} (h:k < (col f c).length):(col f c).getD k 0 ∈ allC f:=by
 unfold allC
 rw [List.mem_flatten]
 by_cases hc:c < f.columns.length
 ·exact ⟨col f c,getD_mem _ _ hc,getD_mem _ _ h⟩
 ·have:col f c = []:=getD_ge _ _ (by omega)
  rw [this] at h; simp at h
theorem sound_of {f:Frm} (h:okFrm f=true):Sound f:=by
 have hl:(allC f).length=f.pieces.length:=by
  rw [okFrm_eq,Bool.and_eq_true] at h
  rw [← srt_len,srt_iota h.2,iota_len]
 simp only [okFrm,Bool.and_eq_true,okHeadF,within_iff,decide_eq_true_eq,okOrd] at h
 obtain ⟨⟨⟨⟨⟨⟨⟨h1,h2⟩,h3⟩,h4⟩,h5⟩,h6⟩,h7⟩,h8,h9⟩:=h
 refine ⟨h1,h2,by omega,by omega,by omega,fun i hi => ?_,fun i hi => ?_,fun i => ?_,fun i k hk => ?_⟩
 ·have:=idx_all default h6 hi
  simp only [okStrip,Bool.and_eq_true,within_iff] at this
  exact ⟨this.1.1,this.1.2,this.2.1,this.2.2⟩
 ·have:=idx_all default h7 hi
  simp only [okPiece,Bool.and_eq_true,within_iff] at this
  exact ⟨this.1.2.1,this.1.2.2,this.1.1.2,this.2.1,this.2.2⟩
 ·by_cases hi:i < f.columns.length
  ·have:(col f i).length<=(allC f).length:=by
    unfold allC
    have hm:col f i ∈ f.columns:=getD_mem _ _ hi
    exact (List.sublist_flatten_of_mem hm).length_le
   omega
  ·have:col f i = []:=getD_ge _ _ (by omega)
   rw [this]; simp
 ·rw [List.all_eq_true] at h9
  have:=h9 _ (mem_col hk)
  simp only [isPc,within_iff] at this
  omega
theorem okFr_open {f:Frm} (h:okFrm f=true):openFr f true=f:=by simp [openFr,h]
theorem prod_succ (f:Frm) (n:Nat):prodF f (n + 1)=prodF f n * ((stp f n).many + 1):=foldl_range_succ _ _ _
theorem prod_bound {f:Frm} (hs:Sound f):∀ n,n<=f.strips.length->1<=prodF f n/\prodF f n<=5 ^ n:=by
 intro n
 induction n with
 | zero=>intro _; exact ⟨Int.le_refl 1,Int.le_refl 1⟩
 | succ n ih =>
  intro h
  obtain ⟨h1,h2⟩:=ih (by omega)
  have h3:=hs.strip n (by omega)
  rw [prod_succ,Int.pow_succ]
  refine ⟨?_,Int.mul_le_mul h2 (by omega) (by omega) (by omega)⟩
  calc (1:Int)=1 * 1:=rfl
   _<=prodF f n * ((stp f n).many + 1):=Int.mul_le_mul h1 (by omega) (by omega) (by omega)
theorem prod_in {f:Frm} (hs:Sound f) {n:Nat} (h:n < f.strips.length):inI (prodF f n * ((stp f n).many + 1)):=by
 rw [← prod_succ]
 obtain ⟨h1,h2⟩:=prod_bound hs (n + 1) (by omega)
 have h3:=hs.strips
 have h4:(5:Int) ^ (n + 1)<=125:=by
  have:n=0 ∨ n=1 ∨ n=2:=by omega
  rcases this with rfl | rfl | rfl <;> decide
 exact ⟨by omega,by omega⟩
end Go.Sh
namespace Go.Ab
open Go Go.RowKit Go.Proofs Go.Sh Go.En
theorem wo150 (f:Frm)
  (o0:smallF f->0=(↑0:Int))
  (o1:smallF f->List.length (pre95 f 0 0)=0)
  (o2:smallF f->0<=List.length (Frm.columns f))
  (o3:smallF f -> ∀ (x1:Nat),x1<=f.columns.length->decide ((x1:Int) < (↑(f.columns.length):Int))=true->0<=(x1:Int))
  (o4:smallF f -> ∀ (x1:Nat),x1<=f.columns.length->decide ((x1:Int) < (↑(f.columns.length):Int))=true->(x1:Int) < (↑(f.columns.length):Int))
  (o5:smallF f -> ∀ (x1:Nat),x1<=f.columns.length->decide ((x1:Int) < (↑(f.columns.length):Int))=true->0=(↑0:Int))
  (o6:smallF f -> ∀ (x1:Nat),x1<=f.columns.length->decide ((x1:Int) < (↑(f.columns.length):Int))=true->0<=(col f x1).length)
  (o7:smallF f -> ∀ (x1:Nat),x1<=f.columns.length->decide ((x1:Int) < (↑(f.columns.length):Int))=true -> ∀ (x3:Nat),x3<=(col f x1).length->decide ((x3:Int) < (↑((col f x1).length):Int))=true->0<=(x3:Int))
  (o8:smallF f -> ∀ (x1:Nat),x1<=f.columns.length->decide ((x1:Int) < (↑(f.columns.length):Int))=true -> ∀ (x3:Nat),x3<=(col f x1).length->decide ((x3:Int) < (↑((col f x1).length):Int))=true->(x3:Int) < (↑((col f x1).length):Int))
  (o9:smallF f -> ∀ (x1:Nat),x1<=f.columns.length->decide ((x1:Int) < (↑(f.columns.length):Int))=true -> ∀ (x3:Nat),x3<=(col f x1).length->decide ((x3:Int) < (↑((col f x1).length):Int))=true->(x1,x3).1 < f.columns.length/\(x1,x3).2 < (col f (x1,x3).1).length)
  (o10:smallF f -> ∀ (x1:Nat),x1<=f.columns.length->decide ((x1:Int) < (↑(f.columns.length):Int))=true -> ∀ (x3:Nat),x3<=(col f x1).length->decide ((x3:Int) < (↑((col f x1).length):Int))=true->inI ((x3:Int) + 1))
  (o11:smallF f -> ∀ (x1:Nat),x1<=f.columns.length->decide ((x1:Int) < (↑(f.columns.length):Int))=true -> ∀ (x3:Nat),x3<=(col f x1).length->decide ((x3:Int) < (↑((col f x1).length):Int))=true->(x3:Int) + 1=(↑(x3 + 1):Int))
  (o12:smallF f -> ∀ (x1:Nat),x1<=f.columns.length->decide ((x1:Int) < (↑(f.columns.length):Int))=true -> ∀ (x3:Nat),x3<=(col f x1).length->decide ((x3:Int) < (↑((col f x1).length):Int))=true->x3 + 1<=(col f x1).length)
  (o13:smallF f -> ∀ (x1:Nat),x1<=f.columns.length->decide ((x1:Int) < (↑(f.columns.length):Int))=true -> ∀ (x3:Nat),x3<=(col f x1).length->decide ((x3:Int) < (↑((col f x1).length):Int))=true->(col f x1).length - (x3 + 1) < (col f x1).length - x3)
  (o14:smallF f -> ∀ (x1:Nat),x1<=f.columns.length->decide ((x1:Int) < (↑(f.columns.length):Int))=true -> ∀ (x3:Nat),x3<=(col f x1).length->decide ((x3:Int) < (↑((col f x1).length):Int))=false->inI ((x1:Int) + 1))
  (o15:smallF f -> ∀ (x1:Nat),x1<=f.columns.length->decide ((x1:Int) < (↑(f.columns.length):Int))=true -> ∀ (x3:Nat),x3<=(col f x1).length->decide ((x3:Int) < (↑((col f x1).length):Int))=false->(x1:Int) + 1=(↑(x1 + 1):Int))
  (o16:smallF f -> ∀ (x1:Nat),x1<=f.columns.length->decide ((x1:Int) < (↑(f.columns.length):Int))=true -> ∀ (x3:Nat),x3<=(col f x1).length->decide ((x3:Int) < (↑((col f x1).length):Int))=false->(pre95 f x1 x3).length=(pre95 f (x1 + 1) 0).length)
  (o17:smallF f -> ∀ (x1:Nat),x1<=f.columns.length->decide ((x1:Int) < (↑(f.columns.length):Int))=true -> ∀ (x3:Nat),x3<=(col f x1).length->decide ((x3:Int) < (↑((col f x1).length):Int))=false -> ∀ (i7:Nat),i7 < (pre95 f x1 x3).length -> [iv ((pre95 f x1 x3).getD i7 0)] = [iv ((pre95 f (x1 + 1) 0).getD i7 0)])
  (o18:smallF f -> ∀ (x1:Nat),x1<=f.columns.length->decide ((x1:Int) < (↑(f.columns.length):Int))=true -> ∀ (x3:Nat),x3<=(col f x1).length->decide ((x3:Int) < (↑((col f x1).length):Int))=false->x1 + 1<=f.columns.length)
  (o19:smallF f -> ∀ (x1:Nat),x1<=f.columns.length->decide ((x1:Int) < (↑(f.columns.length):Int))=true -> ∀ (x3:Nat),x3<=(col f x1).length->decide ((x3:Int) < (↑((col f x1).length):Int))=false->f.columns.length - (x1 + 1) < f.columns.length - x1)
  (o20:smallF f -> ∀ (x1:Nat),x1<=f.columns.length->decide ((x1:Int) < (↑(f.columns.length):Int))=false->(pre95 f x1 0).length=(allC f).length)
  (o21:smallF f -> ∀ (x1:Nat),x1<=f.columns.length->decide ((x1:Int) < (↑(f.columns.length):Int))=false -> ∀ (i9:Nat),i9 < (pre95 f x1 0).length -> [iv ((pre95 f x1 0).getD i9 0)] = [iv ((allC f).getD i9 0)])
  (o22:smallF f -> ∀ (j0:Nat × Nat),j0.1 < f.columns.length/\j0.2 < (col f j0.1).length->True->(pre95 f j0.1 j0.2).length + 1<=65536)
  (o23:smallF f -> ∀ (j0:Nat × Nat),j0.1 < f.columns.length/\j0.2 < (col f j0.1).length->True->(pre95 f j0.1 j0.2).length + 1=(pre95 f j0.1 (j0.2 + 1)).length)
  (o24:smallF f -> ∀ (j0:Nat × Nat),j0.1 < f.columns.length/\j0.2 < (col f j0.1).length->True -> ∀ (i11:Nat),i11 < (pre95 f j0.1 j0.2).length + 1->catF (pre95 f j0.1 j0.2).length (fun (i:Nat)=>[iv ((pre95 f j0.1 j0.2).getD i 0)]) (fun (j:Nat)=>List.getD [[iv ((col f j0.1).getD j0.2 0)]] j (TI.za ti3)) i11 = [iv ((pre95 f j0.1 (j0.2 + 1)).getD i11 0)])
  (l:List (Nat × Nat)) (hl:l.map (·.1)=(OutSpec.hout (ou150 f)).map (·.1)) (hnd:(l.map (·.2)).Nodup) :
  Triple Try.prog 150 (OutSpec.at (ou150 f) l):=by
 refine triple_out Try.func150 rfl Try.call150 T0_ok _ _ _ _ l rfl (Nat.le_of_ble_eq_true (by kernel_rfl)) hl hnd (by kernel_rfl) (by kernel_rfl) (by kernel_rfl) ?_
 intro hpre C hC hE
 obtain ⟨P,w0,E0,av,hA,ro,df⟩:=C
 obtain ⟨rfl,rfl,rfl⟩:=hC
 refine swp_seq ?_
 refine zR [1,2] [0] (Ak 2 tv) ?_
 refine swp_seq ?_
 refine swp_seq ?_
 refine zR [2,6] [0] (Ak 1 tv) ?_
 refine swp_block ?_
 refine zG (r150 f) 24 2000024 0 [2] [AV.rp (cFrm f)] Try.func95 Try.call95 rfl (fun C hC hY0 hE => ?_) (fun (j0:Nat × Nat) hj0 hp0 C hC hE => ?_) ?_
 ·obtain ⟨P,w0,E0,av,hA,ro,df⟩:=C
  subst hC
  refine swp_seq ?_
  refine zR [0,8,9,10] [0] (Ak 4 tv) ?_
  refine swp_block ?_
  refine zL (Hint.ann (h95a f) [(0,AV.fn 0),(8,AV.sl 1 f.columns.length fun (i:Nat)=>[aInts (col f i)]),(9,iv (↑(f.columns.length):Int))] [] 10056) (zEn 24 hE [] [(0,.same 0),(5000,.nil)] [0,8,9] [] (An (An (An (zr (AV.fn 0)) (zr true)) (An (An (zr (AV.sl 1 f.columns.length fun (i:Nat)=>[aInts (col f i)])) (zr true)) (An (An (zr (iv (↑(f.columns.length):Int))) (zr true)) (An (An (ci (o0 hpre)) (zr nilN)) tv)))) (An (An (An (zr 27) (An (An (zr (some Src.nil)) tv) (zr true))) (An (o1 hpre) tv)) (An (zr true) (zr true))))) (o2 hpre) (fun (x1:Nat) hx1 => ?_)
  refine swp_seq ?_
  refine zR [0,8,9,10,11] [0,5000] (Ak 1 tv) ?_
  refine swp_seq ?_
  refine zI (decide ((x1:Int) < (↑(f.columns.length):Int))) (fun y2 => ?_) (fun y2 => ?_)
  ·refine swp_skip ?_
   refine swp_seq ?_
   refine swp_block ?_
   refine swp_seq ?_
   refine zR [0,8,9,10,4] [0,5000] (An (An (o3 hpre x1 hx1 y2) (o4 hpre x1 hx1 y2)) (Ak 2 tv)) ?_
   refine swp_seq ?_
   refine zR [0,8,9,10,14,15,16] [0,5000] (Ak 3 tv) ?_
   refine swp_block ?_
   refine zL (Hint.ann (h95b f x1) [(0,AV.fn 0),(8,AV.sl 1 f.columns.length fun (i:Nat)=>[aInts (col f i)]),(9,iv (↑(f.columns.length):Int)),(10,iv (x1:Int)),(14,aInts (col f x1)),(15,iv (↑((col f x1).length):Int))] [] 20112) (zEn 24 hE [] [(0,.same 0),(5000,.same 5000)] [0,8,9,10,14,15] [5000] (An (An (An (zr (AV.fn 0)) (zr true)) (An (An (zr (AV.sl 1 f.columns.length fun (i:Nat)=>[aInts (col f i)])) (zr true)) (An (An (zr (iv (↑(f.columns.length):Int))) (zr true)) (An (An (zr (iv (x1:Int))) (zr true)) (An (An (zr (aInts (col f x1))) (zr true)) (An (An (zr (iv (↑((col f x1).length):Int))) (zr true)) (An (An (ci (o5 hpre x1 hx1 y2)) (zr nilN)) tv))))))) (An (An (An (zr 27) (An (An (zr (some (Src.same 5000))) tv) (zr true))) (An (An (zr (OB.vec 3 1 (pre95 f x1 0).length fun (i:Nat)=>[iv ((pre95 f x1 0).getD i 0)])) (zr true)) tv)) (An (zr true) (zr true))))) (o6 hpre x1 hx1 y2) (fun (x3:Nat) hx3 => ?_)
   refine swp_seq ?_
   refine zR [0,8,9,10,14,15,16,17] [0,5000] (Ak 1 tv) ?_
   refine swp_seq ?_
   refine zI (decide ((x3:Int) < (↑((col f x1).length):Int))) (fun y4 => ?_) (fun y4 => ?_)
   ·refine swp_skip ?_
    refine swp_seq ?_
    refine swp_block ?_
    refine swp_seq ?_
    refine zR [0,8,9,10,14,15,16,6] [0,5000] (An (An (o7 hpre x1 hx1 y2 x3 hx3 y4) (o8 hpre x1 hx1 y2 x3 hx3 y4)) (Ak 2 tv)) ?_
    refine swp_seq ?_
    refine zC ([(2,CallSpec.eq (y150 f x1 x3) [true])]) [0,8,9,10,14,15,16,23] [0,20160] (Ak 2 (An (An (An (zr (iv ((col f x1).getD x3 0))) tv) (An (hY0 ((x1,x3)) (o9 hpre x1 hx1 y2 x3 hx3 y4)) (Ak 1 (An (zr (some (OB.cells 27 [AV.vec 5000]))) (An (zr (some (OB.vec 3 1 (pre95 f x1 x3).length fun (i:Nat)=>[iv ((pre95 f x1 x3).getD i 0)]))) tv))))) (Ak 1 tv))) ?_
    refine zf ?_
    refine swp_skip ?_
    refine zR [0,8,9,10,14,15,16] [0,20160] (An (o10 hpre x1 hx1 y2 x3 hx3 y4) (Ak 1 tv)) ?_
    exact zn (zEn 24 hE [] [(0,.same 0),(5000,.same 20160)] [0,8,9,10,14,15] [] (An (An (An (zr (AV.fn 0)) (zr true)) (An (An (zr (AV.sl 1 f.columns.length fun (i:Nat)=>[aInts (col f i)])) (zr true)) (An (An (zr (iv (↑(f.columns.length):Int))) (zr true)) (An (An (zr (iv (x1:Int))) (zr true)) (An (An (zr (aInts (col f x1))) (zr true)) (An (An (zr (iv (↑((col f x1).length):Int))) (zr true)) (An (An (ci (o11 hpre x1 hx1 y2 x3 hx3 y4)) (zr nilN)) tv))))))) (An (An (An (zr 27) (An (An (zr (some (Src.same 20160))) tv) (zr true))) (An (An (zr 3) (An (zr 1) (An (zr (pre95 f x1 (x3 + 1)).length) (fun (i5:Nat)=>(fun (y6:i5 < (pre95 f x1 (x3 + 1)).length)=>(zr ([iv ((pre95 f x1 (x3 + 1)).getD i5 0)]))))))) tv)) (An (zr true) (zr true))))) (o12 hpre x1 hx1 y2 x3 hx3 y4) (o13 hpre x1 hx1 y2 x3 hx3 y4)
   ·refine swp_exit ?_
    refine zR [0,8,9,10] [0,5000] (An (o14 hpre x1 hx1 y2 x3 hx3 y4) (Ak 1 tv)) ?_
    exact zn (zEn 24 hE [] [(0,.same 0),(5000,.same 5000)] [0,8,9] [] (An (An (An (zr (AV.fn 0)) (zr true)) (An (An (zr (AV.sl 1 f.columns.length fun (i:Nat)=>[aInts (col f i)])) (zr true)) (An (An (zr (iv (↑(f.columns.length):Int))) (zr true)) (An (An (ci (o15 hpre x1 hx1 y2 x3 hx3 y4)) (zr nilN)) tv)))) (An (An (An (zr 27) (An (An (zr (some (Src.same 5000))) tv) (zr true))) (An (An (zr 3) (An (zr 1) (An (o16 hpre x1 hx1 y2 x3 hx3 y4) (fun (i7:Nat)=>(fun (y8:i7 < (pre95 f x1 x3).length)=>(o17 hpre x1 hx1 y2 x3 hx3 y4 i7 y8)))))) tv)) (An (zr true) (zr true))))) (o18 hpre x1 hx1 y2 x3 hx3 y4) (o19 hpre x1 hx1 y2 x3 hx3 y4)
  ·refine swp_exit ?_
   exact zm (zEn 24 hE [] [(0,.same 0),(5000,.same 5000)] [] [] (Ak 1 (An (An (An (zr 27) (An (An (zr (some (Src.same 5000))) tv) (zr true))) (An (An (zr 3) (An (zr 1) (An (o20 hpre x1 hx1 y2) (fun (i9:Nat)=>(fun (y10:i9 < (pre95 f x1 0).length)=>(o21 hpre x1 hx1 y2 i9 y10)))))) tv)) (An (zr true) (zr true)))))
 ·obtain ⟨P,w0,E0,av,hA,ro,df⟩:=C
  subst hC
  refine zR [2,5] [0,5000] (Ak 1 tv) ?_
  intro C hC hE
  obtain ⟨P,w0,E0,av,hA,ro,df⟩:=C
  subst hC
  refine swp_block ?_
  refine zR [] [0,6032] (Ak 3 (An (o22 hpre j0 hj0 hp0) (Ak 1 tv))) ?_
  exact zN 1006000 (zEn 6000 hE [] [(0,.same 0),(20160,.same 6032)] [] [] (Ak 1 (An (An (An (zr 27) (An (An (zr (some (Src.same 6032))) tv) (zr true))) (An (An (zr 3) (An (zr 1) (An (o23 hpre j0 hj0 hp0) (fun (i11:Nat)=>(fun (y12:i11 < (pre95 f j0.1 j0.2).length + 1)=>(o24 hpre j0 hj0 hp0 i11 y12)))))) tv)) (An (zr true) (zr true)))))
 ·refine swp_seq ?_
  refine zR [4] [5000] (Ak 2 tv) ?_
  refine swp_ret ?_
  exact zO (ASt.mk [(4,AV.vec 0)] [(0,OB.vec 3 1 (allC f).length fun (i:Nat)=>[iv ((allC f).getD i 0)])] 100) (zE hE [] [(0,.same 5000)] [] [] (An (An (zr (some (Src.same 5000))) tv) (An (An (An (zr 3) (An (zr 1) (An (zr (allC f).length) (fun (i13:Nat)=>(fun (y14:i13 < (allC f).length)=>(zr ([iv ((allC f).getD i13 0)]))))))) tv) (An (zr true) (zr true))))) (An (Ak 1 tv) (An (zr (AV.vec 0)) (An (zr (some (OB.vec 3 1 (allC f).length fun (i:Nat)=>[iv ((allC f).getD i 0)]))) tv)))
theorem to150 (f:Frm) (l:List (Nat × Nat)) (hl:l.map (·.1) = [0]) (hnd:(l.map (·.2)).Nodup):Triple Try.prog 150 ((ou150 f).at l):=by
 apply wo150 (l:=l) (hl:=hl) (hnd:=hnd)
 case o16=>intro hp x hx h k hk h2; simp only [decide_eq_true_eq] at h; simp only [decide_eq_false_iff_not] at h2; rw [pre_next f (by omega) (by omega)]
 case o17=>intro hp x hx h k hk h2 i hi; simp only [decide_eq_true_eq] at h; simp only [decide_eq_false_iff_not] at h2; rw [pre_next f (c:=x) (by omega) (by omega)]
 case o20=>intro hp x hx h; simp only [decide_eq_false_iff_not] at h; rw [pre_end f (by omega)]
 case o21=>intro hp x hx h i hi; simp only [decide_eq_false_iff_not] at h; rw [pre_end f (by omega)]
 case o22=>intro hp j hj _; have:=pre_len f j.1 j.2 64 64 hp.2.2.1 hp.2.2.2; omega
 case o23=>intro hp j hj _; rw [pre_succ f hj.2,List.length_append]; rfl
 case o24 =>
  intro hp j hj _ i hi
  rw [pre_succ f hj.2]
  exact catF_one (pre95 f j.1 j.2) _ 0 (fun x=>[iv x]) rfl (fun k _=>rfl) rfl hi
 case o10=>intro hp x hx h k hk h2; simp only [decide_eq_true_eq] at h2; have:=hp.2.2.2 x; exact ⟨by omega,by omega⟩
 case o14=>intro hp x hx h k hk h2; have:=hp.2.2.1; exact ⟨by omega,by omega⟩
 all_goals (first | ((repeat intro _) <;> (try simp only [Bool.cond_true_left,Bool.cond_false_right,Bool.not_not,Bool.not_eq_true',Bool.not_eq_false',Bool.or_eq_true,Bool.or_eq_false_iff,Bool.and_eq_true,decide_eq_true_eq,decide_eq_false_iff_not,inI,big,fitsF,smallF,goodL] at *) <;> first | (exact rfl) | omega | (exact ⟨Nat.zero_le _,fun j hj=>absurd hj (Nat.not_lt_zero j)⟩) | (simp_all; done) | (simp_all; omega)) | skip)
theorem t150o (f:Frm) (id:Nat):Triple Try.prog 150 (s150o f id):=to150 f _ rfl (by simp)
theorem wo129 (f:Frm)
  (l:List (Nat × Nat)) (hl:l.map (·.1)=(OutSpec.hout (ou129 f)).map (·.1)) (hnd:(l.map (·.2)).Nodup) :
  Triple Try.prog 129 (OutSpec.at (ou129 f) l):=by
 refine triple_out Try.func129 rfl Try.call129 T0_ok _ _ _ _ l rfl (Nat.le_of_ble_eq_true (by kernel_rfl)) hl hnd (by kernel_rfl) (by kernel_rfl) (by kernel_rfl) ?_
 intro hpre C hC hE
 obtain ⟨P,w0,E0,av,hA,ro,df⟩:=C
 obtain ⟨rfl,rfl,rfl⟩:=hC
 refine swp_seq ?_
 refine zR [0] [] (Ak 1 tv) ?_
 refine swp_seq ?_
 refine zC ([(1,CallSpec.eq (c129 f 16) [true,true])]) [2] [16] (Ak 1 (An (An (An (zr (nilv)) (An (zr (AV.clo 95 [AV.rp (cFrm f)])) tv)) (An (t150o (f) (16)) (An hpre (Ak 1 (fun (i0:Env)=>tv))))) (Ak 1 tv))) ?_
 refine swp_ret ?_
 exact zO (ASt.mk [(2,AV.vec 0)] [(0,OB.vec 3 1 (allC f).length fun (i:Nat)=>[iv ((allC f).getD i 0)])] 100) (zE hE [] [(0,.same 16)] [] [] (An (An (zr (some (Src.same 16))) tv) (An (An (An (zr 3) (An (zr 1) (An (zr (allC f).length) (fun (i1:Nat)=>(fun (y2:i1 < (allC f).length)=>(zr ([iv ((allC f).getD i1 0)]))))))) tv) (An (zr true) (zr true))))) (An (Ak 1 tv) (An (zr (AV.vec 0)) (An (zr (some (OB.vec 3 1 (allC f).length fun (i:Nat)=>[iv ((allC f).getD i 0)]))) tv)))
theorem to129 (f:Frm) (l:List (Nat × Nat)) (hl:l.map (·.1) = [0]) (hnd:(l.map (·.2)).Nodup):Triple Try.prog 129 ((ou129 f).at l):=by
 apply wo129 (l:=l) (hl:=hl) (hnd:=hnd)
 all_goals (first | ((repeat intro _) <;> (try simp only [Bool.cond_true_left,Bool.cond_false_right,Bool.not_not,Bool.not_eq_true',Bool.not_eq_false',Bool.or_eq_true,Bool.or_eq_false_iff,Bool.and_eq_true,decide_eq_true_eq,decide_eq_false_iff_not,inI,big,fitsF,smallF,goodL] at *) <;> first | (exact rfl) | omega | (exact ⟨Nat.zero_le _,fun j hj=>absurd hj (Nat.not_lt_zero j)⟩) | (simp_all; done) | (simp_all; omega)) | skip)
theorem t129o (f:Frm) (id:Nat):Triple Try.prog 129 (s129o f id):=to129 f _ rfl (by simp)
theorem w94 (f:Frm)
  (o0:smallF f->List.length (allC f)<=65536)
  (o1:smallF f->(sortI (allC f)).length=(srt f).length)
  (o2:smallF f -> ∀ (i2:Nat),i2 < (srt f).length -> [iv ((sortI (allC f)).getD i2 0)] = [iv ((srt f).getD i2 0)]) :
  Triple Try.prog 94 (s94 f):=by
 refine triple_of Try.func94 rfl Try.call94 T0_ok _ rfl rfl rfl rfl (Nat.le_of_ble_eq_true (by kernel_rfl)) (fun _ _ _ _ h=>h) ?_
 intro hpre C hC _ hE
 obtain ⟨P,w0,E0,av,hA,ro,df⟩:=C
 obtain ⟨rfl,rfl,rfl⟩:=hC
 refine swp_seq ?_
 refine zR [0] [] (Ak 1 tv) ?_
 refine swp_seq ?_
 refine zC ([(1,CallSpec.eq (c94 f 16) [true])]) [3] [16] (Ak 1 (An (An (An (zr (AV.clo 95 [AV.rp (cFrm f)])) tv) (An (t129o (f) (16)) (An hpre (Ak 1 (fun (i0:Env)=>tv))))) (Ak 1 tv))) ?_
 refine swp_seq ?_
 refine zC ([(1,CallSpec.eq (cs94 f) [true])]) [3] [16] (Ak 1 (An (An (An (zr (AV.vec 16)) tv) (An (t130 (16) (allC f)) (An (o0 hpre) (An (An (zr (some (OB.vec 3 1 (allC f).length fun (i:Nat)=>[iv ((allC f).getD i 0)]))) tv) (fun (i1:Env)=>tv))))) tv)) ?_
 refine swp_seq ?_
 refine zR [2] [16] (Ak 2 tv) ?_
 refine swp_ret ?_
 exact zT [16] (An (Ak 1 tv) (An (An (zr 1) (An (o1 hpre) (fun (i2:Nat)=>(fun (y3:i2 < (srt f).length)=>(o2 hpre i2 y3))))) (An (zr true) (An (zr true) (zr true)))))
theorem t94 (f:Frm):Triple Try.prog 94 (s94 f):=by
 apply w94
 case o0=>intro hp; have:=all_len f 64 64 hp.2.2.1 hp.2.2.2; omega
 all_goals (try ((repeat intro _) <;> (try simp only [Bool.cond_true_left,Bool.cond_false_right,Bool.not_not,Bool.not_eq_true',Bool.not_eq_false',Bool.or_eq_true,Bool.or_eq_false_iff,Bool.and_eq_true,decide_eq_true_eq,decide_eq_false_iff_not,inI,big,fitsF,smallF,goodL] at *) <;> first | (exact rfl) | omega | (exact ⟨Nat.zero_le _,fun j hj=>absurd hj (Nat.not_lt_zero j)⟩) | (simp_all; done) | (simp_all; omega)))
theorem w93 (n:Int) (lo:Int) (hi:Int)
  (o0:(bif decide (lo<=n) then decide (n<=hi) else false)=within n lo hi) :
  Triple Try.prog 93 (s93 n lo hi):=by
 refine triple_of Try.func93 rfl Try.call93 T0_ok _ rfl rfl rfl rfl (Nat.le_of_ble_eq_true (by kernel_rfl)) (fun _ _ _ _ h=>h) ?_
 intro _ C hC _ hE
 obtain ⟨P,w0,E0,av,hA,ro,df⟩:=C
 obtain ⟨rfl,rfl,rfl⟩:=hC
 refine swp_seq ?_
 refine zR [0,1,2] [] (Ak 1 tv) ?_
 refine swp_seq ?_
 refine zR [6] [] (Ak 4 (An (fun (y0:decide (lo<=n)=true)=>(An (Ak 1 tv) tv)) (An (fun (y1:decide (lo<=n)=true)=>(An (Ak 1 tv) tv)) (An (fun (y2:decide (lo<=n)=true)=>(An (An (fun (y3:decide (lo<=n)=true)=>y2) (An (fun (y4:decide (lo<=n)=true)=>y2) tv)) tv)) (An (An (fun (y5:decide (lo<=n)=true)=>y5) (fun (y6:decide (lo<=n)=false)=>tv)) (Ak 1 tv)))))) ?_
 refine swp_ret ?_
 exact zT [] (An (Ak 1 tv) (An (An (cb (o0)) (zr nilN)) (An (zr true) (An (zr true) (zr true)))))
theorem t93 (n lo hi:Int):Triple Try.prog 93 (s93 n lo hi):=by
 apply w93
 all_goals (try ((repeat intro _) <;> (try simp only [Bool.cond_true_left,Bool.cond_false_right,Bool.not_not,Bool.not_eq_true',Bool.not_eq_false',Bool.or_eq_true,Bool.or_eq_false_iff,Bool.and_eq_true,decide_eq_true_eq,decide_eq_false_iff_not,inI,big,fitsF,smallF,goodL] at *) <;> first | (exact rfl) | omega | (exact ⟨Nat.zero_le _,fun j hj=>absurd hj (Nat.not_lt_zero j)⟩) | (simp_all; done) | (simp_all; omega)))
theorem w87 (n:Int) (lo:Int) (hi:Int) :
  Triple Try.prog 87 (s87 n lo hi):=by
 refine triple_of Try.func87 rfl Try.call87 T0_ok _ rfl rfl rfl rfl (Nat.le_of_ble_eq_true (by kernel_rfl)) (fun _ _ _ _ h=>h) ?_
 intro _ C hC _ hE
 obtain ⟨P,w0,E0,av,hA,ro,df⟩:=C
 obtain ⟨rfl,rfl,rfl⟩:=hC
 refine swp_seq ?_
 refine zR [0,1,2] [] (Ak 1 tv) ?_
 refine swp_seq ?_
 refine zC ([(3,CallSpec.eq (s28 n lo hi) [true,true,true])]) [6] [] (Ak 3 (An (An (An (zr (iv n)) (An (zr (iv lo)) (An (zr (iv hi)) tv))) (An (t28 (n) (lo) (hi)) (Ak 2 (fun (i0:Env)=>tv)))) (Ak 1 tv))) ?_
 refine swp_ret ?_
 exact zT [] (An (Ak 1 tv) (An (An (zr (bv (within n lo hi))) (zr nilN)) (An (zr true) (An (zr true) (zr true)))))
theorem t87 (n lo hi:Int):Triple Try.prog 87 (s87 n lo hi):=by
 apply w87
 all_goals (try ((repeat intro _) <;> (try simp only [Bool.cond_true_left,Bool.cond_false_right,Bool.not_not,Bool.not_eq_true',Bool.not_eq_false',Bool.or_eq_true,Bool.or_eq_false_iff,Bool.and_eq_true,decide_eq_true_eq,decide_eq_false_iff_not,inI,big,fitsF,smallF,goodL] at *) <;> first | (exact rfl) | omega | (exact ⟨Nat.zero_le _,fun j hj=>absurd hj (Nat.not_lt_zero j)⟩) | (simp_all; done) | (simp_all; omega)))
theorem w84 (f:Frm) (n:Int)
  (o0:fitsF f->inI ((↑(f.columns.length):Int) - 1))
  (o1:fitsF f->within n 0 ((↑(f.columns.length):Int) - 1)=isCol f n) :
  Triple Try.prog 84 (s84 f n):=by
 refine triple_of Try.func84 rfl Try.call84 T0_ok _ rfl rfl rfl rfl (Nat.le_of_ble_eq_true (by kernel_rfl)) (fun _ _ _ _ h=>h) ?_
 intro hpre C hC _ hE
 obtain ⟨P,w0,E0,av,hA,ro,df⟩:=C
 obtain ⟨rfl,rfl,rfl⟩:=hC
 refine swp_seq ?_
 refine zR [1,2] [0] (Ak 2 tv) ?_
 refine swp_seq ?_
 refine zC ([(5,CallSpec.eq (s93 n 0 ((↑(f.columns.length):Int) - 1)) [true,true,true])]) [4] [] (Ak 4 (An (o0 hpre) (An (An (An (zr (iv n)) (An (zr (iv 0)) (An (zr (iv ((↑(f.columns.length):Int) - 1))) tv))) (An (t93 (n) (0) ((↑(f.columns.length):Int) - 1)) (Ak 2 (fun (i0:Env)=>tv)))) (Ak 1 tv)))) ?_
 refine swp_ret ?_
 exact zT [] (An (Ak 1 tv) (An (An (cb (o1 hpre)) (zr nilN)) (An (zr true) (An (zr true) (zr true)))))
theorem t84 (f:Frm) (n:Int):Triple Try.prog 84 (s84 f n):=by
 apply w84
 all_goals (try ((repeat intro _) <;> (try simp only [Bool.cond_true_left,Bool.cond_false_right,Bool.not_not,Bool.not_eq_true',Bool.not_eq_false',Bool.or_eq_true,Bool.or_eq_false_iff,Bool.and_eq_true,decide_eq_true_eq,decide_eq_false_iff_not,inI,big,fitsF,smallF,goodL] at *) <;> first | (exact rfl) | omega | (exact ⟨Nat.zero_le _,fun j hj=>absurd hj (Nat.not_lt_zero j)⟩) | (simp_all; done) | (simp_all; omega)))
theorem w88 (f:Frm) (n:Int)
  (o0:fitsF f->inI ((↑(f.pieces.length):Int) - 1))
  (o1:fitsF f->within n 0 ((↑(f.pieces.length):Int) - 1)=isPc f n) :
  Triple Try.prog 88 (s88 f n):=by
 refine triple_of Try.func88 rfl Try.call88 T0_ok _ rfl rfl rfl rfl (Nat.le_of_ble_eq_true (by kernel_rfl)) (fun _ _ _ _ h=>h) ?_
 intro hpre C hC _ hE
 obtain ⟨P,w0,E0,av,hA,ro,df⟩:=C
 obtain ⟨rfl,rfl,rfl⟩:=hC
 refine swp_seq ?_
 refine zR [1,2] [0] (Ak 2 tv) ?_
 refine swp_seq ?_
 refine zC ([(5,CallSpec.eq (s93 n 0 ((↑(f.pieces.length):Int) - 1)) [true,true,true])]) [4] [] (Ak 4 (An (o0 hpre) (An (An (An (zr (iv n)) (An (zr (iv 0)) (An (zr (iv ((↑(f.pieces.length):Int) - 1))) tv))) (An (t93 (n) (0) ((↑(f.pieces.length):Int) - 1)) (Ak 2 (fun (i0:Env)=>tv)))) (Ak 1 tv)))) ?_
 refine swp_ret ?_
 exact zT [] (An (Ak 1 tv) (An (An (cb (o1 hpre)) (zr nilN)) (An (zr true) (An (zr true) (zr true)))))
theorem t88 (f:Frm) (n:Int):Triple Try.prog 88 (s88 f n):=by
 apply w88
 all_goals (try ((repeat intro _) <;> (try simp only [Bool.cond_true_left,Bool.cond_false_right,Bool.not_not,Bool.not_eq_true',Bool.not_eq_false',Bool.or_eq_true,Bool.or_eq_false_iff,Bool.and_eq_true,decide_eq_true_eq,decide_eq_false_iff_not,inI,big,fitsF,smallF,goodL] at *) <;> first | (exact rfl) | omega | (exact ⟨Nat.zero_le _,fun j hj=>absurd hj (Nat.not_lt_zero j)⟩) | (simp_all; done) | (simp_all; omega)))
theorem w25 (f:Frm) (n:Int)
  (o0:fitsF f->inI ((↑(f.pieces.length):Int) - 1))
  (o1:fitsF f->within n 0 ((↑(f.pieces.length):Int) - 1)=isPc f n) :
  Triple Try.prog 25 (s25 f n):=by
 refine triple_of Try.func25 rfl Try.call25 T0_ok _ rfl rfl rfl rfl (Nat.le_of_ble_eq_true (by kernel_rfl)) (fun _ _ _ _ h=>h) ?_
 intro hpre C hC _ hE
 obtain ⟨P,w0,E0,av,hA,ro,df⟩:=C
 obtain ⟨rfl,rfl,rfl⟩:=hC
 refine swp_seq ?_
 refine zR [1,2] [0] (Ak 2 tv) ?_
 refine swp_seq ?_
 refine zC ([(5,CallSpec.eq (s87 n 0 ((↑(f.pieces.length):Int) - 1)) [true,true,true])]) [4] [] (Ak 4 (An (o0 hpre) (An (An (An (zr (iv n)) (An (zr (iv 0)) (An (zr (iv ((↑(f.pieces.length):Int) - 1))) tv))) (An (t87 (n) (0) ((↑(f.pieces.length):Int) - 1)) (Ak 2 (fun (i0:Env)=>tv)))) (Ak 1 tv)))) ?_
 refine swp_ret ?_
 exact zT [] (An (Ak 1 tv) (An (An (cb (o1 hpre)) (zr nilN)) (An (zr true) (An (zr true) (zr true)))))
theorem t25 (f:Frm) (n:Int):Triple Try.prog 25 (s25 f n):=by
 apply w25
 all_goals (try ((repeat intro _) <;> (try simp only [Bool.cond_true_left,Bool.cond_false_right,Bool.not_not,Bool.not_eq_true',Bool.not_eq_false',Bool.or_eq_true,Bool.or_eq_false_iff,Bool.and_eq_true,decide_eq_true_eq,decide_eq_false_iff_not,inI,big,fitsF,smallF,goodL] at *) <;> first | (exact rfl) | omega | (exact ⟨Nat.zero_le _,fun j hj=>absurd hj (Nat.not_lt_zero j)⟩) | (simp_all; done) | (simp_all; omega)))
theorem w98 (f:Frm) (set:List Int)
  (o0:fitsF f/\set.length<=big->(!decide ((↑(set.length):Int)=(↑(f.strips.length):Int)))=true->false=isSet f set)
  (o1:fitsF f/\set.length<=big->(!decide ((↑(set.length):Int)=(↑(f.strips.length):Int)))=false->0=(↑0:Int))
  (o2:fitsF f/\set.length<=big->(!decide ((↑(set.length):Int)=(↑(f.strips.length):Int)))=false->0<=set.length /\ ∀ (j:Nat),j < 0->isSetAt f set j=true)
  (o3:fitsF f/\set.length<=big->(!decide ((↑(set.length):Int)=(↑(f.strips.length):Int)))=false -> ∀ (x1:Nat),(x1<=set.length /\ ∀ (j:Nat),j < x1->isSetAt f set j=true)->decide ((x1:Int) < (↑(set.length):Int))=true->0<=(x1:Int))
  (o4:fitsF f/\set.length<=big->(!decide ((↑(set.length):Int)=(↑(f.strips.length):Int)))=false -> ∀ (x1:Nat),(x1<=set.length /\ ∀ (j:Nat),j < x1->isSetAt f set j=true)->decide ((x1:Int) < (↑(set.length):Int))=true->(x1:Int) < (↑(set.length):Int))
  (o5:fitsF f/\set.length<=big->(!decide ((↑(set.length):Int)=(↑(f.strips.length):Int)))=false -> ∀ (x1:Nat),(x1<=set.length /\ ∀ (j:Nat),j < x1->isSetAt f set j=true)->decide ((x1:Int) < (↑(set.length):Int))=true->0<=(x1:Int))
  (o6:fitsF f/\set.length<=big->(!decide ((↑(set.length):Int)=(↑(f.strips.length):Int)))=false -> ∀ (x1:Nat),(x1<=set.length /\ ∀ (j:Nat),j < x1->isSetAt f set j=true)->decide ((x1:Int) < (↑(set.length):Int))=true->(x1:Int) < (↑(f.strips.length):Int))
  (o7:fitsF f/\set.length<=big->(!decide ((↑(set.length):Int)=(↑(f.strips.length):Int)))=false -> ∀ (x1:Nat),(x1<=set.length /\ ∀ (j:Nat),j < x1->isSetAt f set j=true)->decide ((x1:Int) < (↑(set.length):Int))=true->(!within (set.getD x1 0) 0 (stp f x1).many)=true->false=isSet f set)
  (o8:fitsF f/\set.length<=big->(!decide ((↑(set.length):Int)=(↑(f.strips.length):Int)))=false -> ∀ (x1:Nat),(x1<=set.length /\ ∀ (j:Nat),j < x1->isSetAt f set j=true)->decide ((x1:Int) < (↑(set.length):Int))=true->(!within (set.getD x1 0) 0 (stp f x1).many)=false->inI ((x1:Int) + 1))
  (o9:fitsF f/\set.length<=big->(!decide ((↑(set.length):Int)=(↑(f.strips.length):Int)))=false -> ∀ (x1:Nat),(x1<=set.length /\ ∀ (j:Nat),j < x1->isSetAt f set j=true)->decide ((x1:Int) < (↑(set.length):Int))=true->(!within (set.getD x1 0) 0 (stp f x1).many)=false->(x1:Int) + 1=(↑(x1 + 1):Int))
  (o10:fitsF f/\set.length<=big->(!decide ((↑(set.length):Int)=(↑(f.strips.length):Int)))=false -> ∀ (x1:Nat),(x1<=set.length /\ ∀ (j:Nat),j < x1->isSetAt f set j=true)->decide ((x1:Int) < (↑(set.length):Int))=true->(!within (set.getD x1 0) 0 (stp f x1).many)=false->x1 + 1<=set.length /\ ∀ (j:Nat),j < x1 + 1->isSetAt f set j=true)
  (o11:fitsF f/\set.length<=big->(!decide ((↑(set.length):Int)=(↑(f.strips.length):Int)))=false -> ∀ (x1:Nat),(x1<=set.length /\ ∀ (j:Nat),j < x1->isSetAt f set j=true)->decide ((x1:Int) < (↑(set.length):Int))=true->(!within (set.getD x1 0) 0 (stp f x1).many)=false->set.length - (x1 + 1) < set.length - x1)
  (o12:fitsF f/\set.length<=big->(!decide ((↑(set.length):Int)=(↑(f.strips.length):Int)))=false -> ∀ (x1:Nat),(x1<=set.length /\ ∀ (j:Nat),j < x1->isSetAt f set j=true)->decide ((x1:Int) < (↑(set.length):Int))=false->true=isSet f set) :
  Triple Try.prog 98 (s98 f set):=by
 refine triple_of Try.func98 rfl Try.call98 T0_ok _ rfl rfl rfl rfl (Nat.le_of_ble_eq_true (by kernel_rfl)) (fun _ _ _ _ h=>h) ?_
 intro hpre C hC _ hE
 obtain ⟨P,w0,E0,av,hA,ro,df⟩:=C
 obtain ⟨rfl,rfl,rfl⟩:=hC
 refine swp_seq ?_
 refine zR [1,2] [0] (Ak 2 tv) ?_
 refine swp_seq ?_
 refine swp_seq ?_
 refine zR [1,2,12] [0] (Ak 6 tv) ?_
 refine zI (!decide ((↑(set.length):Int)=(↑(f.strips.length):Int))) (fun y0 => ?_) (fun y0 => ?_)
 ·refine swp_seq ?_
  refine zR [4] [] (Ak 1 tv) ?_
  refine swp_ret ?_
  exact zT [] (An (Ak 1 tv) (An (An (cb (o0 hpre y0)) (zr nilN)) (An (zr true) (An (zr true) (zr true)))))
 ·refine swp_skip ?_
  refine swp_seq ?_
  refine swp_seq ?_
  refine zR [2,13,14,15] [0] (Ak 3 tv) ?_
  refine swp_block ?_
  refine zL (Hint.ann (h98 f set) [(2,AV.ptr 0 []),(13,aInts set),(14,iv (↑(set.length):Int))] [(0,OB.cells 26 (cFrm f))] 10088) (zE hE [] [(0,.same 0)] [13,14] [0] (An (An (An (zr (some (Src.same 0))) (zr nilP)) (An (An (zr (aInts set)) (zr true)) (An (An (zr (iv (↑(set.length):Int))) (zr true)) (An (An (ci (o1 hpre y0)) (zr nilN)) tv)))) (An (An (An (zr (OB.cells 26 (cFrm f))) (zr true)) tv) (An (zr true) (zr true))))) (o2 hpre y0) (fun (x1:Nat) hx1 => ?_)
  refine swp_seq ?_
  refine zR [2,13,14,15,16] [0] (Ak 1 tv) ?_
  refine swp_seq ?_
  refine zI (decide ((x1:Int) < (↑(set.length):Int))) (fun y2 => ?_) (fun y2 => ?_)
  ·refine swp_skip ?_
   refine swp_seq ?_
   refine swp_block ?_
   refine swp_seq ?_
   refine zR [2,13,14,15,5,6] [0] (Ak 1 (An (An (o3 hpre y0 x1 hx1 y2) (o4 hpre y0 x1 hx1 y2)) (Ak 3 tv))) ?_
   refine swp_seq ?_
   refine zC ([(7,CallSpec.eq (s93 (set.getD x1 0) 0 (stp f x1).many) [true,true,true])]) [2,13,14,15,28] [0] (Ak 4 (An (An (o5 hpre y0 x1 hx1 y2) (o6 hpre y0 x1 hx1 y2)) (Ak 2 (An (An (An (zr (iv (set.getD x1 0))) (An (zr (iv 0)) (An (zr (iv (stp f x1).many)) tv))) (An (t93 (set.getD x1 0) (0) (stp f x1).many) (Ak 2 (fun (i3:Env)=>tv)))) (Ak 1 tv))))) ?_
   refine zI (!within (set.getD x1 0) 0 (stp f x1).many) (fun y4 => ?_) (fun y4 => ?_)
   ·refine swp_seq ?_
    refine zR [4] [] (Ak 1 tv) ?_
    refine swp_ret ?_
    exact zT [] (An (Ak 1 tv) (An (An (cb (o7 hpre y0 x1 hx1 y2 y4)) (zr nilN)) (An (zr true) (An (zr true) (zr true)))))
   ·refine swp_skip ?_
    refine zR [2,13,14,15] [0] (An (o8 hpre y0 x1 hx1 y2 y4) (Ak 1 tv)) ?_
    exact zn (zE hE [] [(0,.same 0)] [13,14] [0] (An (An (An (zr (some (Src.same 0))) (zr nilP)) (An (An (zr (aInts set)) (zr true)) (An (An (zr (iv (↑(set.length):Int))) (zr true)) (An (An (ci (o9 hpre y0 x1 hx1 y2 y4)) (zr nilN)) tv)))) (An (An (An (zr (OB.cells 26 (cFrm f))) (zr true)) tv) (An (zr true) (zr true))))) (o10 hpre y0 x1 hx1 y2 y4) (o11 hpre y0 x1 hx1 y2 y4)
  ·refine swp_exit ?_
   refine swp_seq ?_
   refine zR [4] [] (Ak 1 tv) ?_
   refine swp_ret ?_
   exact zT [] (An (Ak 1 tv) (An (An (cb (o12 hpre y0 x1 hx1 y2)) (zr nilN)) (An (zr true) (An (zr true) (zr true)))))
theorem t98 (f:Frm) (set:List Int):Triple Try.prog 98 (s98 f set):=by
 apply w98
 case o0 =>
  intro hp h
  simp only [Bool.not_eq_true',decide_eq_false_iff_not] at h
  have:¬ set.length=f.strips.length:=by omega
  simp [isSet,this]
 case o7 =>
  intro hp h x hx h2 h3
  simp only [Bool.not_eq_true'] at h3
  simp only [decide_eq_true_eq] at h2
  have:(List.range set.length).all (isSetAt f set)=false:=by rw [List.all_eq_false]; exact ⟨x,List.mem_range.2 (by omega),by unfold isSetAt; rw [h3]; simp⟩
  rw [isSet,this,Bool.and_false]
 case o10 =>
  intro hp h x hx h2 h3
  simp only [Bool.not_eq_false'] at h3
  simp only [decide_eq_true_eq] at h2
  exact ⟨by omega,lt_succ_cases hx.2 h3⟩
 case o12 =>
  intro hp h x hx h2
  simp only [Bool.not_eq_false',decide_eq_true_eq] at h
  simp only [decide_eq_false_iff_not] at h2
  have h1:set.length=f.strips.length:=by omega
  have:(List.range set.length).all (isSetAt f set)=true:=by rw [List.all_eq_true]; intro j hj; exact hx.2 j (by have:=List.mem_range.1 hj; omega)
  rw [isSet,this,Bool.and_true]; exact (decide_eq_true h1).symm
 all_goals (try ((repeat intro _) <;> (try simp only [Bool.cond_true_left,Bool.cond_false_right,Bool.not_not,Bool.not_eq_true',Bool.not_eq_false',Bool.or_eq_true,Bool.or_eq_false_iff,Bool.and_eq_true,decide_eq_true_eq,decide_eq_false_iff_not,inI,big,fitsF,smallF,goodL] at *) <;> first | (exact rfl) | omega | (exact ⟨Nat.zero_le _,fun j hj=>absurd hj (Nat.not_lt_zero j)⟩) | (simp_all; done) | (simp_all; omega)))
theorem w86 (f:Frm) (l:List Int)
  (o0:Sound f/\goodL f l->0=(↑0:Int))
  (o1:Sound f/\goodL f l->0=(highP f (List.take 0 l)).lo)
  (o2:Sound f/\goodL f l->0=(highP f (List.take 0 l)).hi)
  (o3:Sound f/\goodL f l->0<=List.length l)
  (o4:Sound f/\goodL f l -> ∀ (x0:Nat),x0<=l.length->decide ((x0:Int) < (↑(l.length):Int))=true->0<=(x0:Int))
  (o5:Sound f/\goodL f l -> ∀ (x0:Nat),x0<=l.length->decide ((x0:Int) < (↑(l.length):Int))=true->(x0:Int) < (↑(l.length):Int))
  (o6:Sound f/\goodL f l -> ∀ (x0:Nat),x0<=l.length->decide ((x0:Int) < (↑(l.length):Int))=true->0<=l.getD x0 0)
  (o7:Sound f/\goodL f l -> ∀ (x0:Nat),x0<=l.length->decide ((x0:Int) < (↑(l.length):Int))=true->l.getD x0 0 < (↑(f.pieces.length):Int))
  (o8:Sound f/\goodL f l -> ∀ (x0:Nat),x0<=l.length->decide ((x0:Int) < (↑(l.length):Int))=true->inI ((highP f (List.take x0 l)).lo + (pc f (l.getD x0 0).toNat).lo))
  (o9:Sound f/\goodL f l -> ∀ (x0:Nat),x0<=l.length->decide ((x0:Int) < (↑(l.length):Int))=true->0<=l.getD x0 0)
  (o10:Sound f/\goodL f l -> ∀ (x0:Nat),x0<=l.length->decide ((x0:Int) < (↑(l.length):Int))=true->l.getD x0 0 < (↑(f.pieces.length):Int))
  (o11:Sound f/\goodL f l -> ∀ (x0:Nat),x0<=l.length->decide ((x0:Int) < (↑(l.length):Int))=true->inI ((highP f (List.take x0 l)).hi + (pc f (l.getD x0 0).toNat).hi))
  (o12:Sound f/\goodL f l -> ∀ (x0:Nat),x0<=l.length->decide ((x0:Int) < (↑(l.length):Int))=true->inI ((x0:Int) + 1))
  (o13:Sound f/\goodL f l -> ∀ (x0:Nat),x0<=l.length->decide ((x0:Int) < (↑(l.length):Int))=true->(x0:Int) + 1=(↑(x0 + 1):Int))
  (o14:Sound f/\goodL f l -> ∀ (x0:Nat),x0<=l.length->decide ((x0:Int) < (↑(l.length):Int))=true->(highP f (List.take x0 l)).lo + (pc f (l.getD x0 0).toNat).lo=(highP f (List.take (x0 + 1) l)).lo)
  (o15:Sound f/\goodL f l -> ∀ (x0:Nat),x0<=l.length->decide ((x0:Int) < (↑(l.length):Int))=true->(highP f (List.take x0 l)).hi + (pc f (l.getD x0 0).toNat).hi=(highP f (List.take (x0 + 1) l)).hi)
  (o16:Sound f/\goodL f l -> ∀ (x0:Nat),x0<=l.length->decide ((x0:Int) < (↑(l.length):Int))=true->x0 + 1<=l.length)
  (o17:Sound f/\goodL f l -> ∀ (x0:Nat),x0<=l.length->decide ((x0:Int) < (↑(l.length):Int))=true->l.length - (x0 + 1) < l.length - x0)
  (o18:Sound f/\goodL f l -> ∀ (x0:Nat),x0<=l.length->decide ((x0:Int) < (↑(l.length):Int))=false->(highP f (List.take x0 l)).lo=(highP f l).lo)
  (o19:Sound f/\goodL f l -> ∀ (x0:Nat),x0<=l.length->decide ((x0:Int) < (↑(l.length):Int))=false->(highP f (List.take x0 l)).hi=(highP f l).hi) :
  Triple Try.prog 86 (s86 f l):=by
 refine triple_of Try.func86 rfl Try.call86 T0_ok _ rfl rfl rfl rfl (Nat.le_of_ble_eq_true (by kernel_rfl)) (fun _ _ _ _ h=>h) ?_
 intro hpre C hC _ hE
 obtain ⟨P,w0,E0,av,hA,ro,df⟩:=C
 obtain ⟨rfl,rfl,rfl⟩:=hC
 refine swp_seq ?_
 refine zR [1,2,4] [0,8] (Ak 2 tv) ?_
 refine swp_seq ?_
 refine swp_seq ?_
 refine zR [2,4,7,8,9] [0,8] (Ak 3 tv) ?_
 refine swp_block ?_
 refine zL (Hint.ann (h86 f l) [(2,AV.ptr 0 []),(7,aInts l),(8,iv (↑(l.length):Int))] [(0,OB.cells 101 (cFrm f))] 10040) (zE hE [] [(0,.same 0),(5000,.same 8)] [7,8] [0] (An (An (An (zr (some (Src.same 0))) (zr nilP)) (An (An (zr (aInts l)) (zr true)) (An (An (zr (iv (↑(l.length):Int))) (zr true)) (An (An (ci (o0 hpre)) (zr nilN)) (An (An (zr (some (Src.same 8))) (zr nilP)) tv))))) (An (An (An (zr (OB.cells 101 (cFrm f))) (zr true)) (An (An (zr 36) (An (An (An (ci (o1 hpre)) (zr nilN)) (An (An (ci (o2 hpre)) (zr nilN)) tv)) (zr true))) tv)) (An (zr true) (zr true))))) (o3 hpre) (fun (x0:Nat) hx0 => ?_)
 refine swp_seq ?_
 refine zR [2,7,8,9,4,10] [0,5000] (Ak 1 tv) ?_
 refine swp_seq ?_
 refine zI (decide ((x0:Int) < (↑(l.length):Int))) (fun y1 => ?_) (fun y1 => ?_)
 ·refine swp_skip ?_
  refine swp_seq ?_
  refine swp_block ?_
  refine swp_seq ?_
  refine zR [2,7,8,9,4,6] [0,5000] (An (An (o4 hpre x0 hx0 y1) (o5 hpre x0 hx0 y1)) (Ak 2 tv)) ?_
  refine swp_seq ?_
  refine zR [2,7,8,9,4,6] [0,5000] (Ak 6 (An (An (o6 hpre x0 hx0 y1) (o7 hpre x0 hx0 y1)) (Ak 3 (An (o8 hpre x0 hx0 y1) (Ak 2 tv))))) ?_
  refine zR [2,7,8,9,4] [0,5000] (Ak 6 (An (An (o9 hpre x0 hx0 y1) (o10 hpre x0 hx0 y1)) (Ak 3 (An (o11 hpre x0 hx0 y1) (Ak 2 tv))))) ?_
  refine zR [2,7,8,9,4] [0,5000] (An (o12 hpre x0 hx0 y1) (Ak 1 tv)) ?_
  exact zn (zE hE [] [(0,.same 0),(5000,.same 5000)] [7,8] [0] (An (An (An (zr (some (Src.same 0))) (zr nilP)) (An (An (zr (aInts l)) (zr true)) (An (An (zr (iv (↑(l.length):Int))) (zr true)) (An (An (ci (o13 hpre x0 hx0 y1)) (zr nilN)) (An (An (zr (some (Src.same 5000))) (zr nilP)) tv))))) (An (An (An (zr (OB.cells 101 (cFrm f))) (zr true)) (An (An (zr 36) (An (An (An (ci (o14 hpre x0 hx0 y1)) (zr nilN)) (An (An (ci (o15 hpre x0 hx0 y1)) (zr nilN)) tv)) (zr true))) tv)) (An (zr true) (zr true))))) (o16 hpre x0 hx0 y1) (o17 hpre x0 hx0 y1)
 ·refine swp_exit ?_
  refine swp_seq ?_
  refine zR [4] [5000] (Ak 2 tv) ?_
  refine swp_ret ?_
  exact zT [] (An (Ak 1 tv) (An (An (An (ci (o18 hpre x0 hx0 y1)) (zr nilN)) (An (An (ci (o19 hpre x0 hx0 y1)) (zr nilN)) tv)) (An (zr true) (An (zr true) (zr true)))))
theorem t86 (f:Frm) (l:List Int):Triple Try.prog 86 (s86 f l):=by
 apply w86
 case o6=>intro hp x hx h; simp only [decide_eq_true_eq] at h; exact (hp.2.2 x (by omega)).1
 case o7=>intro hp x hx h; simp only [decide_eq_true_eq] at h; exact (hp.2.2 x (by omega)).2
 case o8=>intro hp x hx h; simp only [decide_eq_true_eq] at h; have h1:=high_bound hp.1 hp.2 (x + 1) (by omega); have h2:=high_bound hp.1 hp.2 x (by omega); have h3:=hp.2.1; rw [high_take f l (by omega)] at h1; simp only [hiStep] at h1; exact ⟨by omega,by omega⟩
 case o11=>intro hp x hx h; simp only [decide_eq_true_eq] at h; have h1:=high_bound hp.1 hp.2 (x + 1) (by omega); have h2:=high_bound hp.1 hp.2 x (by omega); have h3:=hp.2.1; rw [high_take f l (by omega)] at h1; simp only [hiStep] at h1; exact ⟨by omega,by omega⟩
 case o12=>intro hp x hx h; simp only [decide_eq_true_eq] at h; have h3:=hp.2.1; exact ⟨by omega,by omega⟩
 case o14=>intro hp x hx h; simp only [decide_eq_true_eq] at h; rw [high_take f l (by omega)]; rfl
 case o15=>intro hp x hx h; simp only [decide_eq_true_eq] at h; rw [high_take f l (by omega)]; rfl
 case o18=>intro hp x hx h; simp only [decide_eq_false_iff_not] at h; rw [List.take_of_length_le (by omega)]
 case o19=>intro hp x hx h; simp only [decide_eq_false_iff_not] at h; rw [List.take_of_length_le (by omega)]
 case o9=>intro hp x hx h; simp only [decide_eq_true_eq] at h; exact (hp.2.2 x (by omega)).1
 case o10=>intro hp x hx h; simp only [decide_eq_true_eq] at h; exact (hp.2.2 x (by omega)).2
 all_goals (try ((repeat intro _) <;> (try simp only [Bool.cond_true_left,Bool.cond_false_right,Bool.not_not,Bool.not_eq_true',Bool.not_eq_false',Bool.or_eq_true,Bool.or_eq_false_iff,Bool.and_eq_true,decide_eq_true_eq,decide_eq_false_iff_not,inI,big,fitsF,smallF,goodL] at *) <;> first | (exact rfl) | omega | (exact ⟨Nat.zero_le _,fun j hj=>absurd hj (Nat.not_lt_zero j)⟩) | (simp_all; done) | (simp_all; omega)))
theorem w92 (f:Frm) (l:List Int)
  (o0:Sound f/\goodL f l->0=(↑0:Int))
  (o1:Sound f/\goodL f l->0=(highP f (List.take 0 l)).lo)
  (o2:Sound f/\goodL f l->0=(highP f (List.take 0 l)).hi)
  (o3:Sound f/\goodL f l->0<=List.length l)
  (o4:Sound f/\goodL f l -> ∀ (x0:Nat),x0<=l.length->decide ((x0:Int) < (↑(l.length):Int))=true->0<=(x0:Int))
  (o5:Sound f/\goodL f l -> ∀ (x0:Nat),x0<=l.length->decide ((x0:Int) < (↑(l.length):Int))=true->(x0:Int) < (↑(l.length):Int))
  (o6:Sound f/\goodL f l -> ∀ (x0:Nat),x0<=l.length->decide ((x0:Int) < (↑(l.length):Int))=true->0<=l.getD x0 0)
  (o7:Sound f/\goodL f l -> ∀ (x0:Nat),x0<=l.length->decide ((x0:Int) < (↑(l.length):Int))=true->l.getD x0 0 < (↑(f.pieces.length):Int))
  (o8:Sound f/\goodL f l -> ∀ (x0:Nat),x0<=l.length->decide ((x0:Int) < (↑(l.length):Int))=true->inI ((highP f (List.take x0 l)).lo + (pc f (l.getD x0 0).toNat).lo))
  (o9:Sound f/\goodL f l -> ∀ (x0:Nat),x0<=l.length->decide ((x0:Int) < (↑(l.length):Int))=true->inI ((highP f (List.take x0 l)).hi + (pc f (l.getD x0 0).toNat).hi))
  (o10:Sound f/\goodL f l -> ∀ (x0:Nat),x0<=l.length->decide ((x0:Int) < (↑(l.length):Int))=true->inI ((x0:Int) + 1))
  (o11:Sound f/\goodL f l -> ∀ (x0:Nat),x0<=l.length->decide ((x0:Int) < (↑(l.length):Int))=true->(x0:Int) + 1=(↑(x0 + 1):Int))
  (o12:Sound f/\goodL f l -> ∀ (x0:Nat),x0<=l.length->decide ((x0:Int) < (↑(l.length):Int))=true->(highP f (List.take x0 l)).lo + (pc f (l.getD x0 0).toNat).lo=(highP f (List.take (x0 + 1) l)).lo)
  (o13:Sound f/\goodL f l -> ∀ (x0:Nat),x0<=l.length->decide ((x0:Int) < (↑(l.length):Int))=true->(highP f (List.take x0 l)).hi + (pc f (l.getD x0 0).toNat).hi=(highP f (List.take (x0 + 1) l)).hi)
  (o14:Sound f/\goodL f l -> ∀ (x0:Nat),x0<=l.length->decide ((x0:Int) < (↑(l.length):Int))=true->x0 + 1<=l.length)
  (o15:Sound f/\goodL f l -> ∀ (x0:Nat),x0<=l.length->decide ((x0:Int) < (↑(l.length):Int))=true->l.length - (x0 + 1) < l.length - x0)
  (o16:Sound f/\goodL f l -> ∀ (x0:Nat),x0<=l.length->decide ((x0:Int) < (↑(l.length):Int))=false->(highP f (List.take x0 l)).lo=(highP f l).lo)
  (o17:Sound f/\goodL f l -> ∀ (x0:Nat),x0<=l.length->decide ((x0:Int) < (↑(l.length):Int))=false->(highP f (List.take x0 l)).hi=(highP f l).hi) :
  Triple Try.prog 92 (s92 f l):=by
 refine triple_of Try.func92 rfl Try.call92 T0_ok _ rfl rfl rfl rfl (Nat.le_of_ble_eq_true (by kernel_rfl)) (fun _ _ _ _ h=>h) ?_
 intro hpre C hC _ hE
 obtain ⟨P,w0,E0,av,hA,ro,df⟩:=C
 obtain ⟨rfl,rfl,rfl⟩:=hC
 refine swp_seq ?_
 refine zR [1,2,4] [0,8] (Ak 2 tv) ?_
 refine swp_seq ?_
 refine zR [1,2,4,5] [0,8,16] (Ak 1 tv) ?_
 refine swp_seq ?_
 refine swp_seq ?_
 refine zR [1,2,4,5,6] [0,8,16] (Ak 1 tv) ?_
 refine swp_block ?_
 refine zL (Hint.ann (h92 f l) [(1,aInts l),(2,AV.ptr 0 []),(4,AV.ptr 8 [])] [(0,OB.cells 26 (cFrm f)),(8,OB.cells 36 [iv 0,iv 0])] 10032) (zE hE [] [(0,.same 0),(8,.same 8),(5000,.same 16)] [1] [0,8] (An (An (An (zr (aInts l)) (zr true)) (An (An (zr (some (Src.same 0))) (zr nilP)) (An (An (zr (some (Src.same 8))) (zr nilP)) (An (An (ci (o0 hpre)) (zr nilN)) (An (An (zr (some (Src.same 16))) (zr nilP)) tv))))) (An (An (An (zr (OB.cells 26 (cFrm f))) (zr true)) (An (An (zr (OB.cells 36 [iv 0,iv 0])) (zr true)) (An (An (zr 36) (An (An (An (ci (o1 hpre)) (zr nilN)) (An (An (ci (o2 hpre)) (zr nilN)) tv)) (zr true))) tv))) (An (zr true) (zr true))))) (o3 hpre) (fun (x0:Nat) hx0 => ?_)
 refine swp_seq ?_
 refine swp_seq ?_
 refine zR [1,2,4,6,5,11] [0,8,5000] (Ak 4 tv) ?_
 refine zI (decide ((x0:Int) < (↑(l.length):Int))) (fun y1 => ?_) (fun y1 => ?_)
 ·refine swp_skip ?_
  refine swp_seq ?_
  refine swp_block ?_
  refine swp_seq ?_
  refine zR [1,2,4,6,5,7] [0,8,5000,10136] (Ak 4 (An (An (o4 hpre x0 hx0 y1) (o5 hpre x0 hx0 y1)) (Ak 1 (An (An (o6 hpre x0 hx0 y1) (o7 hpre x0 hx0 y1)) (Ak 4 tv))))) ?_
  refine zR [1,2,4,6,5] [0,8,5000] (Ak 4 (An (o8 hpre x0 hx0 y1) (Ak 4 (An (o9 hpre x0 hx0 y1) (Ak 2 tv))))) ?_
  refine zR [1,2,4,6,5] [0,8,5000] (Ak 1 (An (o10 hpre x0 hx0 y1) (Ak 1 tv))) ?_
  exact zn (zE hE [] [(0,.same 0),(8,.same 8),(5000,.same 5000)] [1] [0,8] (An (An (An (zr (aInts l)) (zr true)) (An (An (zr (some (Src.same 0))) (zr nilP)) (An (An (zr (some (Src.same 8))) (zr nilP)) (An (An (ci (o11 hpre x0 hx0 y1)) (zr nilN)) (An (An (zr (some (Src.same 5000))) (zr nilP)) tv))))) (An (An (An (zr (OB.cells 26 (cFrm f))) (zr true)) (An (An (zr (OB.cells 36 [iv 0,iv 0])) (zr true)) (An (An (zr 36) (An (An (An (ci (o12 hpre x0 hx0 y1)) (zr nilN)) (An (An (ci (o13 hpre x0 hx0 y1)) (zr nilN)) tv)) (zr true))) tv))) (An (zr true) (zr true))))) (o14 hpre x0 hx0 y1) (o15 hpre x0 hx0 y1)
 ·refine swp_exit ?_
  refine swp_seq ?_
  refine zR [4] [8] (Ak 2 tv) ?_
  refine swp_ret ?_
  exact zT [] (An (Ak 1 tv) (An (An (An (ci (o16 hpre x0 hx0 y1)) (zr nilN)) (An (An (ci (o17 hpre x0 hx0 y1)) (zr nilN)) tv)) (An (zr true) (An (zr true) (zr true)))))
theorem t92 (f:Frm) (l:List Int):Triple Try.prog 92 (s92 f l):=by
 apply w92
 case o6=>intro hp x hx h; simp only [decide_eq_true_eq] at h; exact (hp.2.2 x (by omega)).1
 case o7=>intro hp x hx h; simp only [decide_eq_true_eq] at h; exact (hp.2.2 x (by omega)).2
 case o8=>intro hp x hx h; simp only [decide_eq_true_eq] at h; have h1:=high_bound hp.1 hp.2 (x + 1) (by omega); have h2:=high_bound hp.1 hp.2 x (by omega); have h3:=hp.2.1; rw [high_take f l (by omega)] at h1; simp only [hiStep] at h1; exact ⟨by omega,by omega⟩
 case o9=>intro hp x hx h; simp only [decide_eq_true_eq] at h; have h1:=high_bound hp.1 hp.2 (x + 1) (by omega); have h2:=high_bound hp.1 hp.2 x (by omega); have h3:=hp.2.1; rw [high_take f l (by omega)] at h1; simp only [hiStep] at h1; exact ⟨by omega,by omega⟩
 case o10=>intro hp x hx h; simp only [decide_eq_true_eq] at h; have h3:=hp.2.1; exact ⟨by omega,by omega⟩
 case o12=>intro hp x hx h; simp only [decide_eq_true_eq] at h; rw [high_take f l (by omega)]; rfl
 case o13=>intro hp x hx h; simp only [decide_eq_true_eq] at h; rw [high_take f l (by omega)]; rfl
 case o16=>intro hp x hx h; simp only [decide_eq_false_iff_not] at h; rw [List.take_of_length_le (by omega)]
 case o17=>intro hp x hx h; simp only [decide_eq_false_iff_not] at h; rw [List.take_of_length_le (by omega)]
 all_goals (try ((repeat intro _) <;> (try simp only [Bool.cond_true_left,Bool.cond_false_right,Bool.not_not,Bool.not_eq_true',Bool.not_eq_false',Bool.or_eq_true,Bool.or_eq_false_iff,Bool.and_eq_true,decide_eq_true_eq,decide_eq_false_iff_not,inI,big,fitsF,smallF,goodL] at *) <;> first | (exact rfl) | omega | (exact ⟨Nat.zero_le _,fun j hj=>absurd hj (Nat.not_lt_zero j)⟩) | (simp_all; done) | (simp_all; omega)))
theorem w99 (f:Frm) (set:List Int)
  (o0:Sound f/\isSet f set=true->0=ptTo f set 0)
  (o1:Sound f/\isSet f set=true->0=(↑0:Int))
  (o2:Sound f/\isSet f set=true->0<=set.length)
  (o3:Sound f/\isSet f set=true -> ∀ (x0:Nat),x0<=set.length->decide ((x0:Int) < (↑(set.length):Int))=true->0<=(x0:Int))
  (o4:Sound f/\isSet f set=true -> ∀ (x0:Nat),x0<=set.length->decide ((x0:Int) < (↑(set.length):Int))=true->(x0:Int) < (↑(set.length):Int))
  (o5:Sound f/\isSet f set=true -> ∀ (x0:Nat),x0<=set.length->decide ((x0:Int) < (↑(set.length):Int))=true->0<=(x0:Int))
  (o6:Sound f/\isSet f set=true -> ∀ (x0:Nat),x0<=set.length->decide ((x0:Int) < (↑(set.length):Int))=true->(x0:Int) < (↑(f.strips.length):Int))
  (o7:Sound f/\isSet f set=true -> ∀ (x0:Nat),x0<=set.length->decide ((x0:Int) < (↑(set.length):Int))=true->inI (set.getD x0 0 * (stp f x0).thick))
  (o8:Sound f/\isSet f set=true -> ∀ (x0:Nat),x0<=set.length->decide ((x0:Int) < (↑(set.length):Int))=true->inI (ptTo f set x0 + set.getD x0 0 * (stp f x0).thick))
  (o9:Sound f/\isSet f set=true -> ∀ (x0:Nat),x0<=set.length->decide ((x0:Int) < (↑(set.length):Int))=true->inI ((x0:Int) + 1))
  (o10:Sound f/\isSet f set=true -> ∀ (x0:Nat),x0<=set.length->decide ((x0:Int) < (↑(set.length):Int))=true->ptTo f set x0 + set.getD x0 0 * (stp f x0).thick=ptTo f set (x0 + 1))
  (o11:Sound f/\isSet f set=true -> ∀ (x0:Nat),x0<=set.length->decide ((x0:Int) < (↑(set.length):Int))=true->(x0:Int) + 1=(↑(x0 + 1):Int))
  (o12:Sound f/\isSet f set=true -> ∀ (x0:Nat),x0<=set.length->decide ((x0:Int) < (↑(set.length):Int))=true->x0 + 1<=set.length)
  (o13:Sound f/\isSet f set=true -> ∀ (x0:Nat),x0<=set.length->decide ((x0:Int) < (↑(set.length):Int))=true->set.length - (x0 + 1) < set.length - x0)
  (o14:Sound f/\isSet f set=true -> ∀ (x0:Nat),x0<=set.length->decide ((x0:Int) < (↑(set.length):Int))=false->ptTo f set x0=pointsP f set) :
  Triple Try.prog 99 (s99 f set):=by
 refine triple_of Try.func99 rfl Try.call99 T0_ok _ rfl rfl rfl rfl (Nat.le_of_ble_eq_true (by kernel_rfl)) (fun _ _ _ _ h=>h) ?_
 intro hpre C hC _ hE
 obtain ⟨P,w0,E0,av,hA,ro,df⟩:=C
 obtain ⟨rfl,rfl,rfl⟩:=hC
 refine swp_seq ?_
 refine zR [1,2] [0] (Ak 2 tv) ?_
 refine swp_seq ?_
 refine zR [1,2,5] [0] (Ak 1 tv) ?_
 refine swp_seq ?_
 refine swp_seq ?_
 refine zR [2,5,8,9,10] [0] (Ak 3 tv) ?_
 refine swp_block ?_
 refine zL (Hint.ann (h99 f set) [(2,AV.ptr 0 []),(8,aInts set),(9,iv (↑(set.length):Int))] [(0,OB.cells 101 (cFrm f))] 10048) (zE hE [] [(0,.same 0)] [8,9] [0] (An (An (An (zr (some (Src.same 0))) (zr nilP)) (An (An (zr (aInts set)) (zr true)) (An (An (zr (iv (↑(set.length):Int))) (zr true)) (An (An (ci (o0 hpre)) (zr nilN)) (An (An (ci (o1 hpre)) (zr nilN)) tv))))) (An (An (An (zr (OB.cells 101 (cFrm f))) (zr true)) tv) (An (zr true) (zr true))))) (o2 hpre) (fun (x0:Nat) hx0 => ?_)
 refine swp_seq ?_
 refine zR [2,8,9,5,10,11] [0] (Ak 1 tv) ?_
 refine swp_seq ?_
 refine zI (decide ((x0:Int) < (↑(set.length):Int))) (fun y1 => ?_) (fun y1 => ?_)
 ·refine swp_skip ?_
  refine swp_seq ?_
  refine swp_block ?_
  refine swp_seq ?_
  refine zR [2,8,9,5,10,6,7] [0] (Ak 1 (An (An (o3 hpre x0 hx0 y1) (o4 hpre x0 hx0 y1)) (Ak 3 tv))) ?_
  refine zR [2,8,9,5,10] [0] (Ak 6 (An (An (o5 hpre x0 hx0 y1) (o6 hpre x0 hx0 y1)) (Ak 2 (An (o7 hpre x0 hx0 y1) (An (o8 hpre x0 hx0 y1) (Ak 1 tv)))))) ?_
  refine zR [2,8,9,5,10] [0] (An (o9 hpre x0 hx0 y1) (Ak 1 tv)) ?_
  exact zn (zE hE [] [(0,.same 0)] [8,9] [0] (An (An (An (zr (some (Src.same 0))) (zr nilP)) (An (An (zr (aInts set)) (zr true)) (An (An (zr (iv (↑(set.length):Int))) (zr true)) (An (An (ci (o10 hpre x0 hx0 y1)) (zr nilN)) (An (An (ci (o11 hpre x0 hx0 y1)) (zr nilN)) tv))))) (An (An (An (zr (OB.cells 101 (cFrm f))) (zr true)) tv) (An (zr true) (zr true))))) (o12 hpre x0 hx0 y1) (o13 hpre x0 hx0 y1)
 ·refine swp_exit ?_
  refine swp_seq ?_
  refine zR [4] [] (Ak 2 tv) ?_
  refine swp_ret ?_
  exact zT [] (An (Ak 1 tv) (An (An (ci (o14 hpre x0 hx0 y1)) (zr nilN)) (An (zr true) (An (zr true) (zr true)))))
theorem t99 (f:Frm) (set:List Int):Triple Try.prog 99 (s99 f set):=by
 apply w99
 case o6=>intro hp x hx h; simp only [decide_eq_true_eq] at h; have:=(isSet_get hp.2).1; omega
 case o7=>intro hp x hx h; simp only [decide_eq_true_eq] at h; have:=pt_term hp.1 hp.2 (k:=x) (by omega); exact ⟨by omega,by omega⟩
 case o8=>intro hp x hx h; simp only [decide_eq_true_eq] at h; have h1:=pt_term hp.1 hp.2 (k:=x) (by omega); have h2:=pt_bound hp.1 hp.2 x (by omega); have h3:=(isSet_get hp.2).1; have h4:=hp.1.strips; exact ⟨by omega,by omega⟩
 case o9=>intro hp x hx h; simp only [decide_eq_true_eq] at h; have h3:=(isSet_get hp.2).1; have h4:=hp.1.strips; exact ⟨by omega,by omega⟩
 case o10=>intro hp x hx h; exact (pt_succ f set x).symm
 case o14=>intro hp x hx h; simp only [decide_eq_false_iff_not] at h; rw [show x=set.length by omega]; rfl
 all_goals (try ((repeat intro _) <;> (try simp only [Bool.cond_true_left,Bool.cond_false_right,Bool.not_not,Bool.not_eq_true',Bool.not_eq_false',Bool.or_eq_true,Bool.or_eq_false_iff,Bool.and_eq_true,decide_eq_true_eq,decide_eq_false_iff_not,inI,big,fitsF,smallF,goodL] at *) <;> first | (exact rfl) | omega | (exact ⟨Nat.zero_le _,fun j hj=>absurd hj (Nat.not_lt_zero j)⟩) | (simp_all; done) | (simp_all; omega)))
theorem w23 (f:Frm) (set:List Int)
  (o0:Sound f/\isSet f set=true->0=ptTo f set 0)
  (o1:Sound f/\isSet f set=true->0=(↑0:Int))
  (o2:Sound f/\isSet f set=true->0<=set.length)
  (o3:Sound f/\isSet f set=true -> ∀ (x0:Nat),x0<=set.length->decide ((x0:Int) < (↑(set.length):Int))=true->0<=(x0:Int))
  (o4:Sound f/\isSet f set=true -> ∀ (x0:Nat),x0<=set.length->decide ((x0:Int) < (↑(set.length):Int))=true->(x0:Int) < (↑(set.length):Int))
  (o5:Sound f/\isSet f set=true -> ∀ (x0:Nat),x0<=set.length->decide ((x0:Int) < (↑(set.length):Int))=true->0<=(x0:Int))
  (o6:Sound f/\isSet f set=true -> ∀ (x0:Nat),x0<=set.length->decide ((x0:Int) < (↑(set.length):Int))=true->(x0:Int) < (↑(f.strips.length):Int))
  (o7:Sound f/\isSet f set=true -> ∀ (x0:Nat),x0<=set.length->decide ((x0:Int) < (↑(set.length):Int))=true->inI (set.getD x0 0 * (stp f x0).thick))
  (o8:Sound f/\isSet f set=true -> ∀ (x0:Nat),x0<=set.length->decide ((x0:Int) < (↑(set.length):Int))=true->inI (ptTo f set x0 + set.getD x0 0 * (stp f x0).thick))
  (o9:Sound f/\isSet f set=true -> ∀ (x0:Nat),x0<=set.length->decide ((x0:Int) < (↑(set.length):Int))=true->inI ((x0:Int) + 1))
  (o10:Sound f/\isSet f set=true -> ∀ (x0:Nat),x0<=set.length->decide ((x0:Int) < (↑(set.length):Int))=true->ptTo f set x0 + set.getD x0 0 * (stp f x0).thick=ptTo f set (x0 + 1))
  (o11:Sound f/\isSet f set=true -> ∀ (x0:Nat),x0<=set.length->decide ((x0:Int) < (↑(set.length):Int))=true->(x0:Int) + 1=(↑(x0 + 1):Int))
  (o12:Sound f/\isSet f set=true -> ∀ (x0:Nat),x0<=set.length->decide ((x0:Int) < (↑(set.length):Int))=true->x0 + 1<=set.length)
  (o13:Sound f/\isSet f set=true -> ∀ (x0:Nat),x0<=set.length->decide ((x0:Int) < (↑(set.length):Int))=true->set.length - (x0 + 1) < set.length - x0)
  (o14:Sound f/\isSet f set=true -> ∀ (x0:Nat),x0<=set.length->decide ((x0:Int) < (↑(set.length):Int))=false->ptTo f set x0=pointsP f set) :
  Triple Try.prog 23 (s23 f set):=by
 refine triple_of Try.func23 rfl Try.call23 T0_ok _ rfl rfl rfl rfl (Nat.le_of_ble_eq_true (by kernel_rfl)) (fun _ _ _ _ h=>h) ?_
 intro hpre C hC _ hE
 obtain ⟨P,w0,E0,av,hA,ro,df⟩:=C
 obtain ⟨rfl,rfl,rfl⟩:=hC
 refine swp_seq ?_
 refine zR [1,2] [0] (Ak 2 tv) ?_
 refine swp_seq ?_
 refine zR [1,2,5] [0] (Ak 1 tv) ?_
 refine swp_seq ?_
 refine swp_seq ?_
 refine zR [1,2,5,6] [0] (Ak 1 tv) ?_
 refine swp_block ?_
 refine zL (Hint.ann (h23 f set) [(1,aInts set),(2,AV.ptr 0 [])] [(0,OB.cells 26 (cFrm f))] 10032) (zE hE [] [(0,.same 0)] [1] [0] (An (An (An (zr (aInts set)) (zr true)) (An (An (zr (some (Src.same 0))) (zr nilP)) (An (An (ci (o0 hpre)) (zr nilN)) (An (An (ci (o1 hpre)) (zr nilN)) tv)))) (An (An (An (zr (OB.cells 26 (cFrm f))) (zr true)) tv) (An (zr true) (zr true))))) (o2 hpre) (fun (x0:Nat) hx0 => ?_)
 refine swp_seq ?_
 refine swp_seq ?_
 refine zR [1,2,5,6,10] [0] (Ak 4 tv) ?_
 refine zI (decide ((x0:Int) < (↑(set.length):Int))) (fun y1 => ?_) (fun y1 => ?_)
 ·refine swp_skip ?_
  refine swp_seq ?_
  refine swp_block ?_
  refine zR [1,2,5,6] [0] (Ak 3 (An (An (o3 hpre x0 hx0 y1) (o4 hpre x0 hx0 y1)) (Ak 4 (An (An (o5 hpre x0 hx0 y1) (o6 hpre x0 hx0 y1)) (Ak 2 (An (o7 hpre x0 hx0 y1) (An (o8 hpre x0 hx0 y1) (Ak 1 tv)))))))) ?_
  refine zR [1,2,5,6] [0] (Ak 1 (An (o9 hpre x0 hx0 y1) (Ak 1 tv))) ?_
  exact zn (zE hE [] [(0,.same 0)] [1] [0] (An (An (An (zr (aInts set)) (zr true)) (An (An (zr (some (Src.same 0))) (zr nilP)) (An (An (ci (o10 hpre x0 hx0 y1)) (zr nilN)) (An (An (ci (o11 hpre x0 hx0 y1)) (zr nilN)) tv)))) (An (An (An (zr (OB.cells 26 (cFrm f))) (zr true)) tv) (An (zr true) (zr true))))) (o12 hpre x0 hx0 y1) (o13 hpre x0 hx0 y1)
 ·refine swp_exit ?_
  refine swp_seq ?_
  refine zR [4] [] (Ak 2 tv) ?_
  refine swp_ret ?_
  exact zT [] (An (Ak 1 tv) (An (An (ci (o14 hpre x0 hx0 y1)) (zr nilN)) (An (zr true) (An (zr true) (zr true)))))
theorem t23 (f:Frm) (set:List Int):Triple Try.prog 23 (s23 f set):=by
 apply w23
 case o6=>intro hp x hx h; simp only [decide_eq_true_eq] at h; have:=(isSet_get hp.2).1; omega
 case o7=>intro hp x hx h; simp only [decide_eq_true_eq] at h; have:=pt_term hp.1 hp.2 (k:=x) (by omega); exact ⟨by omega,by omega⟩
 case o8=>intro hp x hx h; simp only [decide_eq_true_eq] at h; have h1:=pt_term hp.1 hp.2 (k:=x) (by omega); have h2:=pt_bound hp.1 hp.2 x (by omega); have h3:=(isSet_get hp.2).1; have h4:=hp.1.strips; exact ⟨by omega,by omega⟩
 case o9=>intro hp x hx h; simp only [decide_eq_true_eq] at h; have h3:=(isSet_get hp.2).1; have h4:=hp.1.strips; exact ⟨by omega,by omega⟩
 case o10=>intro hp x hx h; exact (pt_succ f set x).symm
 case o14=>intro hp x hx h; simp only [decide_eq_false_iff_not] at h; rw [show x=set.length by omega]; rfl
 all_goals (try ((repeat intro _) <;> (try simp only [Bool.cond_true_left,Bool.cond_false_right,Bool.not_not,Bool.not_eq_true',Bool.not_eq_false',Bool.or_eq_true,Bool.or_eq_false_iff,Bool.and_eq_true,decide_eq_true_eq,decide_eq_false_iff_not,inI,big,fitsF,smallF,goodL] at *) <;> first | (exact rfl) | omega | (exact ⟨Nat.zero_le _,fun j hj=>absurd hj (Nat.not_lt_zero j)⟩) | (simp_all; done) | (simp_all; omega)))
theorem w85 (f:Frm) (s:Span)
  (o0:Sound f/\0<=s.lo/\s.lo<=s.hi/\s.hi<=1000->inI (f.length - f.slack))
  (o1:Sound f/\0<=s.lo/\s.lo<=s.hi/\s.hi<=1000->inI (f.length - f.slack - s.lo))
  (o2:Sound f/\0<=s.lo/\s.lo<=s.hi/\s.hi<=1000->inI (f.length - s.hi))
  (o3:Sound f/\0<=s.lo/\s.lo<=s.hi/\s.hi<=1000->max 0 (f.length - f.slack - s.lo)=(roomP f s).lo)
  (o4:Sound f/\0<=s.lo/\s.lo<=s.hi/\s.hi<=1000->f.length - s.hi=(roomP f s).hi) :
  Triple Try.prog 85 (s85 f s):=by
 refine triple_of Try.func85 rfl Try.call85 T0_ok _ rfl rfl rfl rfl (Nat.le_of_ble_eq_true (by kernel_rfl)) (fun _ _ _ _ h=>h) ?_
 intro hpre C hC _ hE
 obtain ⟨P,w0,E0,av,hA,ro,df⟩:=C
 obtain ⟨rfl,rfl,rfl⟩:=hC
 refine swp_seq ?_
 refine zR [2,3,4] [0,8,16] (Ak 3 tv) ?_
 refine swp_seq ?_
 refine zR [4] [16] (Ak 6 (An (o0 hpre) (Ak 2 (An (o1 hpre) (Ak 6 (An (o2 hpre) (Ak 2 tv))))))) ?_
 refine swp_ret ?_
 exact zT [] (An (Ak 1 tv) (An (An (An (ci (o3 hpre)) (zr nilN)) (An (An (ci (o4 hpre)) (zr nilN)) tv)) (An (zr true) (An (zr true) (zr true)))))
theorem t85 (f:Frm) (s:Span):Triple Try.prog 85 (s85 f s):=by
 apply w85
 all_goals (first | (intro hp; have h1:=hp.1.len; have h2:=hp.1.slack; exact ⟨by omega,by omega⟩) | skip)
 all_goals (try ((repeat intro _) <;> (try simp only [Bool.cond_true_left,Bool.cond_false_right,Bool.not_not,Bool.not_eq_true',Bool.not_eq_false',Bool.or_eq_true,Bool.or_eq_false_iff,Bool.and_eq_true,decide_eq_true_eq,decide_eq_false_iff_not,inI,big,fitsF,smallF,goodL] at *) <;> first | (exact rfl) | omega | (exact ⟨Nat.zero_le _,fun j hj=>absurd hj (Nat.not_lt_zero j)⟩) | (simp_all; done) | (simp_all; omega)))
theorem w74 (f:Frm) (n:Int)
  (o0:Sound f->inI (Frm.length f - Frm.slack f))
  (o1:Sound f->within n (f.length - f.slack) f.length=lockedAt f n) :
  Triple Try.prog 74 (s74 f n):=by
 refine triple_of Try.func74 rfl Try.call74 T0_ok _ rfl rfl rfl rfl (Nat.le_of_ble_eq_true (by kernel_rfl)) (fun _ _ _ _ h=>h) ?_
 intro hpre C hC _ hE
 obtain ⟨P,w0,E0,av,hA,ro,df⟩:=C
 obtain ⟨rfl,rfl,rfl⟩:=hC
 refine swp_seq ?_
 refine zR [1,2] [0] (Ak 2 tv) ?_
 refine swp_seq ?_
 refine zC ([(8,CallSpec.eq (s87 n (f.length - f.slack) f.length) [true,true,true])]) [4] [] (Ak 5 (An (o0 hpre) (Ak 2 (An (An (An (zr (iv n)) (An (zr (iv (f.length - f.slack))) (An (zr (iv f.length)) tv))) (An (t87 (n) (f.length - f.slack) f.length) (Ak 2 (fun (i0:Env)=>tv)))) (Ak 1 tv))))) ?_
 refine swp_ret ?_
 exact zT [] (An (Ak 1 tv) (An (An (cb (o1 hpre)) (zr nilN)) (An (zr true) (An (zr true) (zr true)))))
theorem t74 (f:Frm) (n:Int):Triple Try.prog 74 (s74 f n):=by
 apply w74
 case o0=>intro hp; have h1:=hp.len; have h2:=hp.slack; exact ⟨by omega,by omega⟩
 all_goals (try ((repeat intro _) <;> (try simp only [Bool.cond_true_left,Bool.cond_false_right,Bool.not_not,Bool.not_eq_true',Bool.not_eq_false',Bool.or_eq_true,Bool.or_eq_false_iff,Bool.and_eq_true,decide_eq_true_eq,decide_eq_false_iff_not,inI,big,fitsF,smallF,goodL] at *) <;> first | (exact rfl) | omega | (exact ⟨Nat.zero_le _,fun j hj=>absurd hj (Nat.not_lt_zero j)⟩) | (simp_all; done) | (simp_all; omega)))
theorem w97 (f:Frm) (p:Int)
  (o0:fitsF f/\f.columns.length<=3->0=cntL (pre95 f 0 0) p)
  (o1:fitsF f/\f.columns.length<=3->0=(↑0:Int))
  (o2:fitsF f/\f.columns.length<=3->0<=f.columns.length)
  (o3:fitsF f/\f.columns.length<=3 -> ∀ (x0:Nat),x0<=f.columns.length->decide ((x0:Int) < (↑(f.columns.length):Int))=true->0=(↑0:Int))
  (o4:fitsF f/\f.columns.length<=3 -> ∀ (x0:Nat),x0<=f.columns.length->decide ((x0:Int) < (↑(f.columns.length):Int))=true->0<=(col f x0).length)
  (o5:fitsF f/\f.columns.length<=3 -> ∀ (x0:Nat),x0<=f.columns.length->decide ((x0:Int) < (↑(f.columns.length):Int))=true -> ∀ (x2:Nat),x2<=(col f x0).length->0<=(x0:Int))
  (o6:fitsF f/\f.columns.length<=3 -> ∀ (x0:Nat),x0<=f.columns.length->decide ((x0:Int) < (↑(f.columns.length):Int))=true -> ∀ (x2:Nat),x2<=(col f x0).length->(x0:Int) < (↑(f.columns.length):Int))
  (o7:fitsF f/\f.columns.length<=3 -> ∀ (x0:Nat),x0<=f.columns.length->decide ((x0:Int) < (↑(f.columns.length):Int))=true -> ∀ (x2:Nat),x2<=(col f x0).length->decide ((x2:Int) < (↑((col f x0).length):Int))=true->0<=(x0:Int))
  (o8:fitsF f/\f.columns.length<=3 -> ∀ (x0:Nat),x0<=f.columns.length->decide ((x0:Int) < (↑(f.columns.length):Int))=true -> ∀ (x2:Nat),x2<=(col f x0).length->decide ((x2:Int) < (↑((col f x0).length):Int))=true->(x0:Int) < (↑(f.columns.length):Int))
  (o9:fitsF f/\f.columns.length<=3 -> ∀ (x0:Nat),x0<=f.columns.length->decide ((x0:Int) < (↑(f.columns.length):Int))=true -> ∀ (x2:Nat),x2<=(col f x0).length->decide ((x2:Int) < (↑((col f x0).length):Int))=true->0<=(x2:Int))
  (o10:fitsF f/\f.columns.length<=3 -> ∀ (x0:Nat),x0<=f.columns.length->decide ((x0:Int) < (↑(f.columns.length):Int))=true -> ∀ (x2:Nat),x2<=(col f x0).length->decide ((x2:Int) < (↑((col f x0).length):Int))=true->(x2:Int) < (↑((col f x0).length):Int))
  (o11:fitsF f/\f.columns.length<=3 -> ∀ (x0:Nat),x0<=f.columns.length->decide ((x0:Int) < (↑(f.columns.length):Int))=true -> ∀ (x2:Nat),x2<=(col f x0).length->decide ((x2:Int) < (↑((col f x0).length):Int))=true->decide ((col f x0).getD x2 0=p)=true->inI (cntL (pre95 f x0 x2) p + 1))
  (o12:fitsF f/\f.columns.length<=3 -> ∀ (x0:Nat),x0<=f.columns.length->decide ((x0:Int) < (↑(f.columns.length):Int))=true -> ∀ (x2:Nat),x2<=(col f x0).length->decide ((x2:Int) < (↑((col f x0).length):Int))=true->decide ((col f x0).getD x2 0=p)=true->inI ((x2:Int) + 1))
  (o13:fitsF f/\f.columns.length<=3 -> ∀ (x0:Nat),x0<=f.columns.length->decide ((x0:Int) < (↑(f.columns.length):Int))=true -> ∀ (x2:Nat),x2<=(col f x0).length->decide ((x2:Int) < (↑((col f x0).length):Int))=true->decide ((col f x0).getD x2 0=p)=true->cntL (pre95 f x0 x2) p + 1=cntL (pre95 f x0 (x2 + 1)) p)
  (o14:fitsF f/\f.columns.length<=3 -> ∀ (x0:Nat),x0<=f.columns.length->decide ((x0:Int) < (↑(f.columns.length):Int))=true -> ∀ (x2:Nat),x2<=(col f x0).length->decide ((x2:Int) < (↑((col f x0).length):Int))=true->decide ((col f x0).getD x2 0=p)=true->(x2:Int) + 1=(↑(x2 + 1):Int))
  (o15:fitsF f/\f.columns.length<=3 -> ∀ (x0:Nat),x0<=f.columns.length->decide ((x0:Int) < (↑(f.columns.length):Int))=true -> ∀ (x2:Nat),x2<=(col f x0).length->decide ((x2:Int) < (↑((col f x0).length):Int))=true->decide ((col f x0).getD x2 0=p)=true->x2 + 1<=(col f x0).length)
  (o16:fitsF f/\f.columns.length<=3 -> ∀ (x0:Nat),x0<=f.columns.length->decide ((x0:Int) < (↑(f.columns.length):Int))=true -> ∀ (x2:Nat),x2<=(col f x0).length->decide ((x2:Int) < (↑((col f x0).length):Int))=true->decide ((col f x0).getD x2 0=p)=true->(col f x0).length - (x2 + 1) < (col f x0).length - x2)
  (o17:fitsF f/\f.columns.length<=3 -> ∀ (x0:Nat),x0<=f.columns.length->decide ((x0:Int) < (↑(f.columns.length):Int))=true -> ∀ (x2:Nat),x2<=(col f x0).length->decide ((x2:Int) < (↑((col f x0).length):Int))=true->decide ((col f x0).getD x2 0=p)=false->inI ((x2:Int) + 1))
  (o18:fitsF f/\f.columns.length<=3 -> ∀ (x0:Nat),x0<=f.columns.length->decide ((x0:Int) < (↑(f.columns.length):Int))=true -> ∀ (x2:Nat),x2<=(col f x0).length->decide ((x2:Int) < (↑((col f x0).length):Int))=true->decide ((col f x0).getD x2 0=p)=false->cntL (pre95 f x0 x2) p=cntL (pre95 f x0 (x2 + 1)) p)
  (o19:fitsF f/\f.columns.length<=3 -> ∀ (x0:Nat),x0<=f.columns.length->decide ((x0:Int) < (↑(f.columns.length):Int))=true -> ∀ (x2:Nat),x2<=(col f x0).length->decide ((x2:Int) < (↑((col f x0).length):Int))=true->decide ((col f x0).getD x2 0=p)=false->(x2:Int) + 1=(↑(x2 + 1):Int))
  (o20:fitsF f/\f.columns.length<=3 -> ∀ (x0:Nat),x0<=f.columns.length->decide ((x0:Int) < (↑(f.columns.length):Int))=true -> ∀ (x2:Nat),x2<=(col f x0).length->decide ((x2:Int) < (↑((col f x0).length):Int))=true->decide ((col f x0).getD x2 0=p)=false->x2 + 1<=(col f x0).length)
  (o21:fitsF f/\f.columns.length<=3 -> ∀ (x0:Nat),x0<=f.columns.length->decide ((x0:Int) < (↑(f.columns.length):Int))=true -> ∀ (x2:Nat),x2<=(col f x0).length->decide ((x2:Int) < (↑((col f x0).length):Int))=true->decide ((col f x0).getD x2 0=p)=false->(col f x0).length - (x2 + 1) < (col f x0).length - x2)
  (o22:fitsF f/\f.columns.length<=3 -> ∀ (x0:Nat),x0<=f.columns.length->decide ((x0:Int) < (↑(f.columns.length):Int))=true -> ∀ (x2:Nat),x2<=(col f x0).length->decide ((x2:Int) < (↑((col f x0).length):Int))=false->inI ((x0:Int) + 1))
  (o23:fitsF f/\f.columns.length<=3 -> ∀ (x0:Nat),x0<=f.columns.length->decide ((x0:Int) < (↑(f.columns.length):Int))=true -> ∀ (x2:Nat),x2<=(col f x0).length->decide ((x2:Int) < (↑((col f x0).length):Int))=false->cntL (pre95 f x0 x2) p=cntL (pre95 f (x0 + 1) 0) p)
  (o24:fitsF f/\f.columns.length<=3 -> ∀ (x0:Nat),x0<=f.columns.length->decide ((x0:Int) < (↑(f.columns.length):Int))=true -> ∀ (x2:Nat),x2<=(col f x0).length->decide ((x2:Int) < (↑((col f x0).length):Int))=false->(x0:Int) + 1=(↑(x0 + 1):Int))
  (o25:fitsF f/\f.columns.length<=3 -> ∀ (x0:Nat),x0<=f.columns.length->decide ((x0:Int) < (↑(f.columns.length):Int))=true -> ∀ (x2:Nat),x2<=(col f x0).length->decide ((x2:Int) < (↑((col f x0).length):Int))=false->x0 + 1<=f.columns.length)
  (o26:fitsF f/\f.columns.length<=3 -> ∀ (x0:Nat),x0<=f.columns.length->decide ((x0:Int) < (↑(f.columns.length):Int))=true -> ∀ (x2:Nat),x2<=(col f x0).length->decide ((x2:Int) < (↑((col f x0).length):Int))=false->f.columns.length - (x0 + 1) < f.columns.length - x0)
  (o27:fitsF f/\f.columns.length<=3 -> ∀ (x0:Nat),x0<=f.columns.length->decide ((x0:Int) < (↑(f.columns.length):Int))=false->cntL (pre95 f x0 0) p=cntL (allC f) p) :
  Triple Try.prog 97 (s97 f p):=by
 refine triple_of Try.func97 rfl Try.call97 T0_ok _ rfl rfl rfl rfl (Nat.le_of_ble_eq_true (by kernel_rfl)) (fun _ _ _ _ h=>h) ?_
 intro hpre C hC _ hE
 obtain ⟨P,w0,E0,av,hA,ro,df⟩:=C
 obtain ⟨rfl,rfl,rfl⟩:=hC
 refine swp_seq ?_
 refine zR [1,2] [0] (Ak 2 tv) ?_
 refine swp_seq ?_
 refine zR [1,2,5] [0] (Ak 1 tv) ?_
 refine swp_seq ?_
 refine swp_seq ?_
 refine zR [1,2,5,6] [0] (Ak 1 tv) ?_
 refine swp_block ?_
 refine zL (Hint.ann (h97a f p) [(1,iv p),(2,AV.ptr 0 [])] [(0,OB.cells 26 (cFrm f))] 10032) (zE hE [] [(0,.same 0)] [1] [0] (An (An (An (zr (iv p)) (zr true)) (An (An (zr (some (Src.same 0))) (zr nilP)) (An (An (ci (o0 hpre)) (zr nilN)) (An (An (ci (o1 hpre)) (zr nilN)) tv)))) (An (An (An (zr (OB.cells 26 (cFrm f))) (zr true)) tv) (An (zr true) (zr true))))) (o2 hpre) (fun (x0:Nat) hx0 => ?_)
 refine swp_seq ?_
 refine swp_seq ?_
 refine zR [1,2,5,6,12] [0] (Ak 5 tv) ?_
 refine zI (decide ((x0:Int) < (↑(f.columns.length):Int))) (fun y1 => ?_) (fun y1 => ?_)
 ·refine swp_skip ?_
  refine swp_seq ?_
  refine swp_block ?_
  refine swp_seq ?_
  refine zR [1,2,5,6,7] [0] (Ak 1 tv) ?_
  refine swp_block ?_
  refine zL (Hint.ann (h97b f p x0) [(1,iv p),(2,AV.ptr 0 []),(6,iv (x0:Int))] [(0,OB.cells 26 (cFrm f))] 20080) (zE hE [] [(0,.same 0)] [1,6,5] [0] (An (An (An (zr (iv p)) (zr true)) (An (An (zr (some (Src.same 0))) (zr nilP)) (An (An (zr (iv (x0:Int))) (zr true)) (An (An (zr (iv (cntL (pre95 f x0 0) p))) (zr true)) (An (An (ci (o3 hpre x0 hx0 y1)) (zr nilN)) tv))))) (An (An (An (zr (OB.cells 26 (cFrm f))) (zr true)) tv) (An (zr true) (zr true))))) (o4 hpre x0 hx0 y1) (fun (x2:Nat) hx2 => ?_)
  refine swp_seq ?_
  refine swp_seq ?_
  refine zR [1,2,6,5,7,22] [0] (Ak 4 (An (An (o5 hpre x0 hx0 y1 x2 hx2) (o6 hpre x0 hx0 y1 x2 hx2)) (Ak 3 tv))) ?_
  refine zI (decide ((x2:Int) < (↑((col f x0).length):Int))) (fun y3 => ?_) (fun y3 => ?_)
  ·refine swp_skip ?_
   refine swp_seq ?_
   refine swp_block ?_
   refine swp_seq ?_
   refine zR [1,2,6,5,7,34] [0] (Ak 3 (An (An (o7 hpre x0 hx0 y1 x2 hx2 y3) (o8 hpre x0 hx0 y1 x2 hx2 y3)) (Ak 2 (An (An (o9 hpre x0 hx0 y1 x2 hx2 y3) (o10 hpre x0 hx0 y1 x2 hx2 y3)) (Ak 3 tv))))) ?_
   refine zI (decide ((col f x0).getD x2 0=p)) (fun y4 => ?_) (fun y4 => ?_)
   ·refine zR [1,2,6,5,7] [0] (Ak 1 (An (o11 hpre x0 hx0 y1 x2 hx2 y3 y4) (Ak 1 tv))) ?_
    refine zR [1,2,6,5,7] [0] (Ak 1 (An (o12 hpre x0 hx0 y1 x2 hx2 y3 y4) (Ak 1 tv))) ?_
    exact zn (zE hE [] [(0,.same 0)] [1,6] [0] (An (An (An (zr (iv p)) (zr true)) (An (An (zr (some (Src.same 0))) (zr nilP)) (An (An (zr (iv (x0:Int))) (zr true)) (An (An (ci (o13 hpre x0 hx0 y1 x2 hx2 y3 y4)) (zr nilN)) (An (An (ci (o14 hpre x0 hx0 y1 x2 hx2 y3 y4)) (zr nilN)) tv))))) (An (An (An (zr (OB.cells 26 (cFrm f))) (zr true)) tv) (An (zr true) (zr true))))) (o15 hpre x0 hx0 y1 x2 hx2 y3 y4) (o16 hpre x0 hx0 y1 x2 hx2 y3 y4)
   ·refine swp_skip ?_
    refine zR [1,2,6,5,7] [0] (Ak 1 (An (o17 hpre x0 hx0 y1 x2 hx2 y3 y4) (Ak 1 tv))) ?_
    exact zn (zE hE [] [(0,.same 0)] [1,6] [0] (An (An (An (zr (iv p)) (zr true)) (An (An (zr (some (Src.same 0))) (zr nilP)) (An (An (zr (iv (x0:Int))) (zr true)) (An (An (ci (o18 hpre x0 hx0 y1 x2 hx2 y3 y4)) (zr nilN)) (An (An (ci (o19 hpre x0 hx0 y1 x2 hx2 y3 y4)) (zr nilN)) tv))))) (An (An (An (zr (OB.cells 26 (cFrm f))) (zr true)) tv) (An (zr true) (zr true))))) (o20 hpre x0 hx0 y1 x2 hx2 y3 y4) (o21 hpre x0 hx0 y1 x2 hx2 y3 y4)
  ·refine swp_exit ?_
   refine zR [1,2,6,5] [0] (Ak 1 (An (o22 hpre x0 hx0 y1 x2 hx2 y3) (Ak 1 tv))) ?_
   exact zn (zE hE [] [(0,.same 0)] [1] [0] (An (An (An (zr (iv p)) (zr true)) (An (An (zr (some (Src.same 0))) (zr nilP)) (An (An (ci (o23 hpre x0 hx0 y1 x2 hx2 y3)) (zr nilN)) (An (An (ci (o24 hpre x0 hx0 y1 x2 hx2 y3)) (zr nilN)) tv)))) (An (An (An (zr (OB.cells 26 (cFrm f))) (zr true)) tv) (An (zr true) (zr true))))) (o25 hpre x0 hx0 y1 x2 hx2 y3) (o26 hpre x0 hx0 y1 x2 hx2 y3)
 ·refine swp_exit ?_
  refine swp_seq ?_
  refine zR [4] [] (Ak 2 tv) ?_
  refine swp_ret ?_
  exact zT [] (An (Ak 1 tv) (An (An (ci (o27 hpre x0 hx0 y1)) (zr nilN)) (An (zr true) (An (zr true) (zr true)))))
theorem t97 (f:Frm) (p:Int):Triple Try.prog 97 (s97 f p):=by
 apply w97
 case o11=>intro hp x hx h k hk h2 h3; simp only [decide_eq_true_eq] at h2; have h5:=hp.1.2.2.2; have h4:=pre_len f x k 3 big hp.2 h5; have h6:=cnt_le (pre95 f x k) p; simp only [big] at *; exact ⟨by omega,by omega⟩
 case o12=>intro hp x hx h k hk h2 h3; simp only [decide_eq_true_eq] at h2; have h5:=hp.1.2.2.2 x; simp only [big] at *; exact ⟨by omega,by omega⟩
 case o13=>intro hp x hx h k hk h2 h3; simp only [decide_eq_true_eq] at h2 h3; rw [pre_succ f (by omega),cnt_snoc,if_pos h3]
 case o17=>intro hp x hx h k hk h2 h3; simp only [decide_eq_true_eq] at h2; have h5:=hp.1.2.2.2 x; simp only [big] at *; exact ⟨by omega,by omega⟩
 case o18=>intro hp x hx h k hk h2 h3; simp only [decide_eq_true_eq] at h2; simp only [decide_eq_false_iff_not] at h3; rw [pre_succ f (by omega),cnt_snoc,if_neg h3,Int.add_zero]
 case o23=>intro hp x hx h k hk h2; simp only [decide_eq_true_eq] at h; simp only [decide_eq_false_iff_not] at h2; rw [pre_next f (by omega) (by omega)]
 case o27=>intro hp x hx h; simp only [decide_eq_false_iff_not] at h; rw [pre_end f (by omega)]
 all_goals (try ((repeat intro _) <;> (try simp only [Bool.cond_true_left,Bool.cond_false_right,Bool.not_not,Bool.not_eq_true',Bool.not_eq_false',Bool.or_eq_true,Bool.or_eq_false_iff,Bool.and_eq_true,decide_eq_true_eq,decide_eq_false_iff_not,inI,big,fitsF,smallF,goodL] at *) <;> first | (exact rfl) | omega | (exact ⟨Nat.zero_le _,fun j hj=>absurd hj (Nat.not_lt_zero j)⟩) | (simp_all; done) | (simp_all; omega)))
theorem w34 (f:Frm)
  (o0:smallF f->(bif bif bif bif within f.length 0 300 then within f.slack 0 9 else false then decide ((↑(f.strips.length):Int)<=3) else false then decide ((↑(f.pieces.length):Int)<=6) else false then decide ((↑(f.columns.length):Int)<=3) else false)=okS f 0)
  (o1:smallF f->0=(↑0:Int))
  (o2:smallF f->0<=List.length (Frm.strips f))
  (o3:smallF f -> ∀ (x36:Nat),x36<=f.strips.length->decide ((x36:Int) < (↑(f.strips.length):Int))=true->0<=(x36:Int))
  (o4:smallF f -> ∀ (x36:Nat),x36<=f.strips.length->decide ((x36:Int) < (↑(f.strips.length):Int))=true->(x36:Int) < (↑(f.strips.length):Int))
  (o5:smallF f -> ∀ (x36:Nat),x36<=f.strips.length->decide ((x36:Int) < (↑(f.strips.length):Int))=true->inI ((x36:Int) + 1))
  (o6:smallF f -> ∀ (x36:Nat),x36<=f.strips.length->decide ((x36:Int) < (↑(f.strips.length):Int))=true->(bif bif okS f x36 then within (stp f x36).thick 1 30 else false then within (stp f x36).many 0 4 else false)=okS f (x36 + 1))
  (o7:smallF f -> ∀ (x36:Nat),x36<=f.strips.length->decide ((x36:Int) < (↑(f.strips.length):Int))=true->(x36:Int) + 1=(↑(x36 + 1):Int))
  (o8:smallF f -> ∀ (x36:Nat),x36<=f.strips.length->decide ((x36:Int) < (↑(f.strips.length):Int))=true->x36 + 1<=f.strips.length)
  (o9:smallF f -> ∀ (x36:Nat),x36<=f.strips.length->decide ((x36:Int) < (↑(f.strips.length):Int))=true->f.strips.length - (x36 + 1) < f.strips.length - x36)
  (o10:smallF f -> ∀ (x36:Nat),x36<=f.strips.length->decide ((x36:Int) < (↑(f.strips.length):Int))=false->okS f x36=okP f 0)
  (o11:smallF f -> ∀ (x36:Nat),x36<=f.strips.length->decide ((x36:Int) < (↑(f.strips.length):Int))=false->0=(↑0:Int))
  (o12:smallF f -> ∀ (x36:Nat),x36<=f.strips.length->decide ((x36:Int) < (↑(f.strips.length):Int))=false->0<=f.pieces.length)
  (o13:smallF f -> ∀ (x36:Nat),x36<=f.strips.length->decide ((x36:Int) < (↑(f.strips.length):Int))=false -> ∀ (x54:Nat),x54<=f.pieces.length->decide ((x54:Int) < (↑(f.pieces.length):Int))=true->0<=(x54:Int))
  (o14:smallF f -> ∀ (x36:Nat),x36<=f.strips.length->decide ((x36:Int) < (↑(f.strips.length):Int))=false -> ∀ (x54:Nat),x54<=f.pieces.length->decide ((x54:Int) < (↑(f.pieces.length):Int))=true->(x54:Int) < (↑(f.pieces.length):Int))
  (o15:smallF f -> ∀ (x36:Nat),x36<=f.strips.length->decide ((x36:Int) < (↑(f.strips.length):Int))=false -> ∀ (x54:Nat),x54<=f.pieces.length->decide ((x54:Int) < (↑(f.pieces.length):Int))=true->inI ((x54:Int) + 1))
  (o16:smallF f -> ∀ (x36:Nat),x36<=f.strips.length->decide ((x36:Int) < (↑(f.strips.length):Int))=false -> ∀ (x54:Nat),x54<=f.pieces.length->decide ((x54:Int) < (↑(f.pieces.length):Int))=true->(bif bif bif okP f x54 then within (pc f x54).hi 0 99 else false then within (pc f x54).lo 0 (pc f x54).hi else false then within (pc f x54).pence 0 99 else false)=okP f (x54 + 1))
  (o17:smallF f -> ∀ (x36:Nat),x36<=f.strips.length->decide ((x36:Int) < (↑(f.strips.length):Int))=false -> ∀ (x54:Nat),x54<=f.pieces.length->decide ((x54:Int) < (↑(f.pieces.length):Int))=true->(x54:Int) + 1=(↑(x54 + 1):Int))
  (o18:smallF f -> ∀ (x36:Nat),x36<=f.strips.length->decide ((x36:Int) < (↑(f.strips.length):Int))=false -> ∀ (x54:Nat),x54<=f.pieces.length->decide ((x54:Int) < (↑(f.pieces.length):Int))=true->x54 + 1<=f.pieces.length)
  (o19:smallF f -> ∀ (x36:Nat),x36<=f.strips.length->decide ((x36:Int) < (↑(f.strips.length):Int))=false -> ∀ (x54:Nat),x54<=f.pieces.length->decide ((x54:Int) < (↑(f.pieces.length):Int))=true->f.pieces.length - (x54 + 1) < f.pieces.length - x54)
  (o20:smallF f -> ∀ (x36:Nat),x36<=f.strips.length->decide ((x36:Int) < (↑(f.strips.length):Int))=false -> ∀ (x54:Nat),x54<=f.pieces.length->decide ((x54:Int) < (↑(f.pieces.length):Int))=false->(!okP f x54)=true->30=checkF f)
  (o21:smallF f -> ∀ (x36:Nat),x36<=f.strips.length->decide ((x36:Int) < (↑(f.strips.length):Int))=false -> ∀ (x54:Nat),x54<=f.pieces.length->decide ((x54:Int) < (↑(f.pieces.length):Int))=false->(!okP f x54)=false->(!decide ((↑((srt f).length):Int)=(↑(f.pieces.length):Int)))=true->30=checkF f)
  (o22:smallF f -> ∀ (x36:Nat),x36<=f.strips.length->decide ((x36:Int) < (↑(f.strips.length):Int))=false -> ∀ (x54:Nat),x54<=f.pieces.length->decide ((x54:Int) < (↑(f.pieces.length):Int))=false->(!okP f x54)=false->(!decide ((↑((srt f).length):Int)=(↑(f.pieces.length):Int)))=false->0=(↑0:Int))
  (o23:smallF f -> ∀ (x36:Nat),x36<=f.strips.length->decide ((x36:Int) < (↑(f.strips.length):Int))=false -> ∀ (x54:Nat),x54<=f.pieces.length->decide ((x54:Int) < (↑(f.pieces.length):Int))=false->(!okP f x54)=false->(!decide ((↑((srt f).length):Int)=(↑(f.pieces.length):Int)))=false->0<=(srt f).length /\ ∀ (j:Nat),j < 0->(srt f).getD j 0=(j:Int))
  (o24:smallF f -> ∀ (x36:Nat),x36<=f.strips.length->decide ((x36:Int) < (↑(f.strips.length):Int))=false -> ∀ (x54:Nat),x54<=f.pieces.length->decide ((x54:Int) < (↑(f.pieces.length):Int))=false->(!okP f x54)=false->(!decide ((↑((srt f).length):Int)=(↑(f.pieces.length):Int)))=false -> ∀ (x93:Nat),(x93<=(srt f).length /\ ∀ (j:Nat),j < x93->(srt f).getD j 0=(j:Int))->decide ((x93:Int) < (↑((srt f).length):Int))=true->0<=(x93:Int))
  (o25:smallF f -> ∀ (x36:Nat),x36<=f.strips.length->decide ((x36:Int) < (↑(f.strips.length):Int))=false -> ∀ (x54:Nat),x54<=f.pieces.length->decide ((x54:Int) < (↑(f.pieces.length):Int))=false->(!okP f x54)=false->(!decide ((↑((srt f).length):Int)=(↑(f.pieces.length):Int)))=false -> ∀ (x93:Nat),(x93<=(srt f).length /\ ∀ (j:Nat),j < x93->(srt f).getD j 0=(j:Int))->decide ((x93:Int) < (↑((srt f).length):Int))=true->(x93:Int) < (↑((srt f).length):Int))
  (o26:smallF f -> ∀ (x36:Nat),x36<=f.strips.length->decide ((x36:Int) < (↑(f.strips.length):Int))=false -> ∀ (x54:Nat),x54<=f.pieces.length->decide ((x54:Int) < (↑(f.pieces.length):Int))=false->(!okP f x54)=false->(!decide ((↑((srt f).length):Int)=(↑(f.pieces.length):Int)))=false -> ∀ (x93:Nat),(x93<=(srt f).length /\ ∀ (j:Nat),j < x93->(srt f).getD j 0=(j:Int))->decide ((x93:Int) < (↑((srt f).length):Int))=true->(!decide ((x93:Int)=(srt f).getD x93 0))=true->30=checkF f)
  (o27:smallF f -> ∀ (x36:Nat),x36<=f.strips.length->decide ((x36:Int) < (↑(f.strips.length):Int))=false -> ∀ (x54:Nat),x54<=f.pieces.length->decide ((x54:Int) < (↑(f.pieces.length):Int))=false->(!okP f x54)=false->(!decide ((↑((srt f).length):Int)=(↑(f.pieces.length):Int)))=false -> ∀ (x93:Nat),(x93<=(srt f).length /\ ∀ (j:Nat),j < x93->(srt f).getD j 0=(j:Int))->decide ((x93:Int) < (↑((srt f).length):Int))=true->(!decide ((x93:Int)=(srt f).getD x93 0))=false->inI ((x93:Int) + 1))
  (o28:smallF f -> ∀ (x36:Nat),x36<=f.strips.length->decide ((x36:Int) < (↑(f.strips.length):Int))=false -> ∀ (x54:Nat),x54<=f.pieces.length->decide ((x54:Int) < (↑(f.pieces.length):Int))=false->(!okP f x54)=false->(!decide ((↑((srt f).length):Int)=(↑(f.pieces.length):Int)))=false -> ∀ (x93:Nat),(x93<=(srt f).length /\ ∀ (j:Nat),j < x93->(srt f).getD j 0=(j:Int))->decide ((x93:Int) < (↑((srt f).length):Int))=true->(!decide ((x93:Int)=(srt f).getD x93 0))=false->(x93:Int) + 1=(↑(x93 + 1):Int))
  (o29:smallF f -> ∀ (x36:Nat),x36<=f.strips.length->decide ((x36:Int) < (↑(f.strips.length):Int))=false -> ∀ (x54:Nat),x54<=f.pieces.length->decide ((x54:Int) < (↑(f.pieces.length):Int))=false->(!okP f x54)=false->(!decide ((↑((srt f).length):Int)=(↑(f.pieces.length):Int)))=false -> ∀ (x93:Nat),(x93<=(srt f).length /\ ∀ (j:Nat),j < x93->(srt f).getD j 0=(j:Int))->decide ((x93:Int) < (↑((srt f).length):Int))=true->(!decide ((x93:Int)=(srt f).getD x93 0))=false->x93 + 1<=(srt f).length /\ ∀ (j:Nat),j < x93 + 1->(srt f).getD j 0=(j:Int))
  (o30:smallF f -> ∀ (x36:Nat),x36<=f.strips.length->decide ((x36:Int) < (↑(f.strips.length):Int))=false -> ∀ (x54:Nat),x54<=f.pieces.length->decide ((x54:Int) < (↑(f.pieces.length):Int))=false->(!okP f x54)=false->(!decide ((↑((srt f).length):Int)=(↑(f.pieces.length):Int)))=false -> ∀ (x93:Nat),(x93<=(srt f).length /\ ∀ (j:Nat),j < x93->(srt f).getD j 0=(j:Int))->decide ((x93:Int) < (↑((srt f).length):Int))=true->(!decide ((x93:Int)=(srt f).getD x93 0))=false->(srt f).length - (x93 + 1) < (srt f).length - x93)
  (o31:smallF f -> ∀ (x36:Nat),x36<=f.strips.length->decide ((x36:Int) < (↑(f.strips.length):Int))=false -> ∀ (x54:Nat),x54<=f.pieces.length->decide ((x54:Int) < (↑(f.pieces.length):Int))=false->(!okP f x54)=false->(!decide ((↑((srt f).length):Int)=(↑(f.pieces.length):Int)))=false -> ∀ (x93:Nat),(x93<=(srt f).length /\ ∀ (j:Nat),j < x93->(srt f).getD j 0=(j:Int))->decide ((x93:Int) < (↑((srt f).length):Int))=false->0=checkF f) :
  Triple Try.prog 34 (s34 f):=by
 refine triple_of Try.func34 rfl Try.call34 T0_ok _ rfl rfl rfl rfl (Nat.le_of_ble_eq_true (by kernel_rfl)) (fun _ _ _ _ h=>h) ?_
 intro hpre C hC _ hE
 obtain ⟨P,w0,E0,av,hA,ro,df⟩:=C
 obtain ⟨rfl,rfl,rfl⟩:=hC
 refine swp_seq ?_
 refine zR [1] [0] (Ak 2 tv) ?_
 refine swp_seq ?_
 refine zC ([(2,CallSpec.eq (s93 f.length 0 300) [true,true,true]),(6,CallSpec.eq (s93 f.slack 0 9) [true,true,true])]) [1,3] [0] (Ak 2 (An (An (An (zr (iv f.length)) (An (zr (iv 0)) (An (zr (iv 300)) tv))) (An (t93 f.length (0) (300)) (Ak 2 (fun (i0:Env)=>tv)))) (Ak 1 (An (fun (y1:within f.length 0 300=true)=>(An (Ak 1 tv) tv)) (An (fun (y2:within f.length 0 300=true)=>(An (An (fun (y3:within f.length 0 300=true)=>y2) tv) tv)) (An (fun (y4:within f.length 0 300=true)=>(An (Ak 1 (An (fun (y5:within f.length 0 300=true)=>y4) (Ak 2 tv))) (An (An (zr (iv f.slack)) (An (zr (iv 0)) (An (zr (iv 9)) tv))) (An (t93 f.slack (0) (9)) (Ak 2 (fun (i6:Env)=>tv)))))) (An (An (fun (y7:within f.length 0 300=true)=>y7) (fun (y8:within f.length 0 300=false)=>tv)) (Ak 1 (An (fun (y9:(bif within f.length 0 300 then within f.slack 0 9 else false)=true)=>(An (Ak 1 tv) tv)) (An (fun (y10:(bif within f.length 0 300 then within f.slack 0 9 else false)=true)=>(An (An (fun (y11:(bif within f.length 0 300 then within f.slack 0 9 else false)=true)=>y10) tv) tv)) (An (fun (y12:(bif within f.length 0 300 then within f.slack 0 9 else false)=true)=>(An (An (fun (y13:(bif within f.length 0 300 then within f.slack 0 9 else false)=true)=>y12) tv) tv)) (An (fun (y14:(bif within f.length 0 300 then within f.slack 0 9 else false)=true)=>(An (An (fun (y15:(bif within f.length 0 300 then within f.slack 0 9 else false)=true)=>y14) (Ak 1 tv)) tv)) (An (An (fun (y16:(bif within f.length 0 300 then within f.slack 0 9 else false)=true)=>y16) (fun (y17:(bif within f.length 0 300 then within f.slack 0 9 else false)=false)=>tv)) (Ak 1 (An (fun (y18:(bif bif within f.length 0 300 then within f.slack 0 9 else false then decide ((↑(f.strips.length):Int)<=3) else false)=true)=>(An (Ak 1 tv) tv)) (An (fun (y19:(bif bif within f.length 0 300 then within f.slack 0 9 else false then decide ((↑(f.strips.length):Int)<=3) else false)=true)=>(An (An (fun (y20:(bif bif within f.length 0 300 then within f.slack 0 9 else false then decide ((↑(f.strips.length):Int)<=3) else false)=true)=>y19) tv) tv)) (An (fun (y21:(bif bif within f.length 0 300 then within f.slack 0 9 else false then decide ((↑(f.strips.length):Int)<=3) else false)=true)=>(An (An (fun (y22:(bif bif within f.length 0 300 then within f.slack 0 9 else false then decide ((↑(f.strips.length):Int)<=3) else false)=true)=>y21) tv) tv)) (An (fun (y23:(bif bif within f.length 0 300 then within f.slack 0 9 else false then decide ((↑(f.strips.length):Int)<=3) else false)=true)=>(An (An (fun (y24:(bif bif within f.length 0 300 then within f.slack 0 9 else false then decide ((↑(f.strips.length):Int)<=3) else false)=true)=>y23) (Ak 1 tv)) tv)) (An (An (fun (y25:(bif bif within f.length 0 300 then within f.slack 0 9 else false then decide ((↑(f.strips.length):Int)<=3) else false)=true)=>y25) (fun (y26:(bif bif within f.length 0 300 then within f.slack 0 9 else false then decide ((↑(f.strips.length):Int)<=3) else false)=false)=>tv)) (Ak 1 (An (fun (y27:(bif bif bif within f.length 0 300 then within f.slack 0 9 else false then decide ((↑(f.strips.length):Int)<=3) else false then decide ((↑(f.pieces.length):Int)<=6) else false)=true)=>(An (Ak 1 tv) tv)) (An (fun (y28:(bif bif bif within f.length 0 300 then within f.slack 0 9 else false then decide ((↑(f.strips.length):Int)<=3) else false then decide ((↑(f.pieces.length):Int)<=6) else false)=true)=>(An (An (fun (y29:(bif bif bif within f.length 0 300 then within f.slack 0 9 else false then decide ((↑(f.strips.length):Int)<=3) else false then decide ((↑(f.pieces.length):Int)<=6) else false)=true)=>y28) tv) tv)) (An (fun (y30:(bif bif bif within f.length 0 300 then within f.slack 0 9 else false then decide ((↑(f.strips.length):Int)<=3) else false then decide ((↑(f.pieces.length):Int)<=6) else false)=true)=>(An (An (fun (y31:(bif bif bif within f.length 0 300 then within f.slack 0 9 else false then decide ((↑(f.strips.length):Int)<=3) else false then decide ((↑(f.pieces.length):Int)<=6) else false)=true)=>y30) tv) tv)) (An (fun (y32:(bif bif bif within f.length 0 300 then within f.slack 0 9 else false then decide ((↑(f.strips.length):Int)<=3) else false then decide ((↑(f.pieces.length):Int)<=6) else false)=true)=>(An (An (fun (y33:(bif bif bif within f.length 0 300 then within f.slack 0 9 else false then decide ((↑(f.strips.length):Int)<=3) else false then decide ((↑(f.pieces.length):Int)<=6) else false)=true)=>y32) (Ak 1 tv)) tv)) (An (An (fun (y34:(bif bif bif within f.length 0 300 then within f.slack 0 9 else false then decide ((↑(f.strips.length):Int)<=3) else false then decide ((↑(f.pieces.length):Int)<=6) else false)=true)=>y34) (fun (y35:(bif bif bif within f.length 0 300 then within f.slack 0 9 else false then decide ((↑(f.strips.length):Int)<=3) else false then decide ((↑(f.pieces.length):Int)<=6) else false)=false)=>tv)) (Ak 1 tv)))))))))))))))))))))))))) ?_
 refine swp_seq ?_
 refine swp_seq ?_
 refine zR [1,3,38,39,40] [0] (Ak 4 tv) ?_
 refine swp_block ?_
 refine zL (Hint.ann (h34a f) [(1,AV.ptr 0 []),(38,AV.sl 2 f.strips.length fun (i:Nat)=>cStrip (stp f i)),(39,iv (↑(f.strips.length):Int))] [(0,OB.cells 26 (cFrm f))] 10264) (zE hE [] [(0,.same 0)] [38,39] [0] (An (An (An (zr (some (Src.same 0))) (zr nilP)) (An (An (zr (AV.sl 2 f.strips.length fun (i:Nat)=>cStrip (stp f i))) (zr true)) (An (An (zr (iv (↑(f.strips.length):Int))) (zr true)) (An (An (cb (o0 hpre)) (zr nilN)) (An (An (ci (o1 hpre)) (zr nilN)) tv))))) (An (An (An (zr (OB.cells 26 (cFrm f))) (zr true)) tv) (An (zr true) (zr true))))) (o2 hpre) (fun (x36:Nat) hx36 => ?_)
 refine swp_seq ?_
 refine zR [1,38,39,3,40,41] [0] (Ak 1 tv) ?_
 refine swp_seq ?_
 refine zI (decide ((x36:Int) < (↑(f.strips.length):Int))) (fun y37 => ?_) (fun y37 => ?_)
 ·refine swp_skip ?_
  refine swp_seq ?_
  refine swp_block ?_
  refine swp_seq ?_
  refine zR [1,38,39,3,40,5] [0,10288] (An (An (o3 hpre x36 hx36 y37) (o4 hpre x36 hx36 y37)) (Ak 3 tv)) ?_
  refine zC ([(4,CallSpec.eq (s93 (stp f x36).thick 1 30) [true,true,true]),(9,CallSpec.eq (s93 (stp f x36).many 0 4) [true,true,true])]) [1,38,39,3,40] [0] (Ak 2 (An (fun (y38:okS f x36=true)=>(An (Ak 1 tv) tv)) (An (fun (y39:okS f x36=true)=>(An (An (fun (y40:okS f x36=true)=>y39) tv) tv)) (An (fun (y41:okS f x36=true)=>(An (Ak 1 (An (fun (y42:okS f x36=true)=>y41) (Ak 2 tv))) (An (An (zr (iv (stp f x36).thick)) (An (zr (iv 1)) (An (zr (iv 30)) tv))) (An (t93 (stp f x36).thick (1) (30)) (Ak 2 (fun (i43:Env)=>tv)))))) (An (An (fun (y44:okS f x36=true)=>y44) (fun (y45:okS f x36=false)=>tv)) (Ak 1 (An (fun (y46:(bif okS f x36 then within (stp f x36).thick 1 30 else false)=true)=>(An (Ak 1 tv) tv)) (An (fun (y47:(bif okS f x36 then within (stp f x36).thick 1 30 else false)=true)=>(An (An (fun (y48:(bif okS f x36 then within (stp f x36).thick 1 30 else false)=true)=>y47) tv) tv)) (An (fun (y49:(bif okS f x36 then within (stp f x36).thick 1 30 else false)=true)=>(An (Ak 1 (An (fun (y50:(bif okS f x36 then within (stp f x36).thick 1 30 else false)=true)=>y49) (Ak 2 tv))) (An (An (zr (iv (stp f x36).many)) (An (zr (iv 0)) (An (zr (iv 4)) tv))) (An (t93 (stp f x36).many (0) (4)) (Ak 2 (fun (i51:Env)=>tv)))))) (An (An (fun (y52:(bif okS f x36 then within (stp f x36).thick 1 30 else false)=true)=>y52) (fun (y53:(bif okS f x36 then within (stp f x36).thick 1 30 else false)=false)=>tv)) (Ak 1 tv))))))))))) ?_
  refine zR [1,38,39,3,40] [0] (An (o5 hpre x36 hx36 y37) (Ak 1 tv)) ?_
  exact zn (zE hE [] [(0,.same 0)] [38,39] [0] (An (An (An (zr (some (Src.same 0))) (zr nilP)) (An (An (zr (AV.sl 2 f.strips.length fun (i:Nat)=>cStrip (stp f i))) (zr true)) (An (An (zr (iv (↑(f.strips.length):Int))) (zr true)) (An (An (cb (o6 hpre x36 hx36 y37)) (zr nilN)) (An (An (ci (o7 hpre x36 hx36 y37)) (zr nilN)) tv))))) (An (An (An (zr (OB.cells 26 (cFrm f))) (zr true)) tv) (An (zr true) (zr true))))) (o8 hpre x36 hx36 y37) (o9 hpre x36 hx36 y37)
 ·refine swp_exit ?_
  refine swp_seq ?_
  refine swp_seq ?_
  refine zR [1,3,57,58,59] [0] (Ak 4 tv) ?_
  refine swp_block ?_
  refine zL (Hint.ann (h34b f) [(1,AV.ptr 0 []),(57,AV.sl 3 f.pieces.length fun (i:Nat)=>cPiece (pc f i)),(58,iv (↑(f.pieces.length):Int))] [(0,OB.cells 26 (cFrm f))] 20304) (zE hE [] [(0,.same 0)] [57,58] [0] (An (An (An (zr (some (Src.same 0))) (zr nilP)) (An (An (zr (AV.sl 3 f.pieces.length fun (i:Nat)=>cPiece (pc f i))) (zr true)) (An (An (zr (iv (↑(f.pieces.length):Int))) (zr true)) (An (An (cb (o10 hpre x36 hx36 y37)) (zr nilN)) (An (An (ci (o11 hpre x36 hx36 y37)) (zr nilN)) tv))))) (An (An (An (zr (OB.cells 26 (cFrm f))) (zr true)) tv) (An (zr true) (zr true))))) (o12 hpre x36 hx36 y37) (fun (x54:Nat) hx54 => ?_)
  refine swp_seq ?_
  refine zR [1,57,58,3,59,60] [0] (Ak 1 tv) ?_
  refine swp_seq ?_
  refine zI (decide ((x54:Int) < (↑(f.pieces.length):Int))) (fun y55 => ?_) (fun y55 => ?_)
  ·refine swp_skip ?_
   refine swp_seq ?_
   refine swp_block ?_
   refine swp_seq ?_
   refine zR [1,57,58,3,59,7] [0,20328] (An (An (o13 hpre x36 hx36 y37 x54 hx54 y55) (o14 hpre x36 hx36 y37 x54 hx54 y55)) (Ak 3 tv)) ?_
   refine zC ([(5,CallSpec.eq (s93 (pc f x54).hi 0 99) [true,true,true]),(14,CallSpec.eq (s93 (pc f x54).lo 0 (pc f x54).hi) [true,true,true]),(19,CallSpec.eq (s93 (pc f x54).pence 0 99) [true,true,true])]) [1,57,58,3,59] [0] (Ak 2 (An (fun (y56:okP f x54=true)=>(An (Ak 1 tv) tv)) (An (fun (y57:okP f x54=true)=>(An (An (fun (y58:okP f x54=true)=>y57) tv) tv)) (An (fun (y59:okP f x54=true)=>(An (An (fun (y60:okP f x54=true)=>y59) tv) tv)) (An (fun (y61:okP f x54=true)=>(An (Ak 1 (An (fun (y62:okP f x54=true)=>y61) (Ak 2 tv))) (An (An (zr (iv (pc f x54).hi)) (An (zr (iv 0)) (An (zr (iv 99)) tv))) (An (t93 (pc f x54).hi (0) (99)) (Ak 2 (fun (i63:Env)=>tv)))))) (An (An (fun (y64:okP f x54=true)=>y64) (fun (y65:okP f x54=false)=>tv)) (Ak 1 (An (fun (y66:(bif okP f x54 then within (pc f x54).hi 0 99 else false)=true)=>(An (Ak 1 tv) tv)) (An (fun (y67:(bif okP f x54 then within (pc f x54).hi 0 99 else false)=true)=>(An (An (fun (y68:(bif okP f x54 then within (pc f x54).hi 0 99 else false)=true)=>y67) tv) tv)) (An (fun (y69:(bif okP f x54 then within (pc f x54).hi 0 99 else false)=true)=>(An (An (fun (y70:(bif okP f x54 then within (pc f x54).hi 0 99 else false)=true)=>y69) tv) tv)) (An (fun (y71:(bif okP f x54 then within (pc f x54).hi 0 99 else false)=true)=>(An (Ak 1 tv) tv)) (An (fun (y72:(bif okP f x54 then within (pc f x54).hi 0 99 else false)=true)=>(An (An (fun (y73:(bif okP f x54 then within (pc f x54).hi 0 99 else false)=true)=>y72) tv) tv)) (An (fun (y74:(bif okP f x54 then within (pc f x54).hi 0 99 else false)=true)=>(An (An (fun (y75:(bif okP f x54 then within (pc f x54).hi 0 99 else false)=true)=>y74) tv) tv)) (An (fun (y76:(bif okP f x54 then within (pc f x54).hi 0 99 else false)=true)=>(An (Ak 1 (An (fun (y77:(bif okP f x54 then within (pc f x54).hi 0 99 else false)=true)=>y76) (Ak 1 (An (fun (y78:(bif okP f x54 then within (pc f x54).hi 0 99 else false)=true)=>y76) tv)))) (An (An (zr (iv (pc f x54).lo)) (An (zr (iv 0)) (An (zr (iv (pc f x54).hi)) tv))) (An (t93 (pc f x54).lo (0) (pc f x54).hi) (Ak 2 (fun (i79:Env)=>tv)))))) (An (An (fun (y80:(bif okP f x54 then within (pc f x54).hi 0 99 else false)=true)=>y80) (fun (y81:(bif okP f x54 then within (pc f x54).hi 0 99 else false)=false)=>tv)) (Ak 1 (An (fun (y82:(bif bif okP f x54 then within (pc f x54).hi 0 99 else false then within (pc f x54).lo 0 (pc f x54).hi else false)=true)=>(An (Ak 1 tv) tv)) (An (fun (y83:(bif bif okP f x54 then within (pc f x54).hi 0 99 else false then within (pc f x54).lo 0 (pc f x54).hi else false)=true)=>(An (An (fun (y84:(bif bif okP f x54 then within (pc f x54).hi 0 99 else false then within (pc f x54).lo 0 (pc f x54).hi else false)=true)=>y83) tv) tv)) (An (fun (y85:(bif bif okP f x54 then within (pc f x54).hi 0 99 else false then within (pc f x54).lo 0 (pc f x54).hi else false)=true)=>(An (Ak 1 (An (fun (y86:(bif bif okP f x54 then within (pc f x54).hi 0 99 else false then within (pc f x54).lo 0 (pc f x54).hi else false)=true)=>y85) (Ak 2 tv))) (An (An (zr (iv (pc f x54).pence)) (An (zr (iv 0)) (An (zr (iv 99)) tv))) (An (t93 (pc f x54).pence (0) (99)) (Ak 2 (fun (i87:Env)=>tv)))))) (An (An (fun (y88:(bif bif okP f x54 then within (pc f x54).hi 0 99 else false then within (pc f x54).lo 0 (pc f x54).hi else false)=true)=>y88) (fun (y89:(bif bif okP f x54 then within (pc f x54).hi 0 99 else false then within (pc f x54).lo 0 (pc f x54).hi else false)=false)=>tv)) (Ak 1 tv))))))))))))))))))))) ?_
   refine zR [1,57,58,3,59] [0] (An (o15 hpre x36 hx36 y37 x54 hx54 y55) (Ak 1 tv)) ?_
   exact zn (zE hE [] [(0,.same 0)] [57,58] [0] (An (An (An (zr (some (Src.same 0))) (zr nilP)) (An (An (zr (AV.sl 3 f.pieces.length fun (i:Nat)=>cPiece (pc f i))) (zr true)) (An (An (zr (iv (↑(f.pieces.length):Int))) (zr true)) (An (An (cb (o16 hpre x36 hx36 y37 x54 hx54 y55)) (zr nilN)) (An (An (ci (o17 hpre x36 hx36 y37 x54 hx54 y55)) (zr nilN)) tv))))) (An (An (An (zr (OB.cells 26 (cFrm f))) (zr true)) tv) (An (zr true) (zr true))))) (o18 hpre x36 hx36 y37 x54 hx54 y55) (o19 hpre x36 hx36 y37 x54 hx54 y55)
  ·refine swp_exit ?_
   refine swp_seq ?_
   refine swp_seq ?_
   refine zR [1,86] [0] (Ak 2 tv) ?_
   refine zI (!okP f x54) (fun y90 => ?_) (fun y90 => ?_)
   ·refine swp_seq ?_
    refine zR [2] [] (Ak 1 tv) ?_
    refine swp_ret ?_
    exact zT [] (An (Ak 1 tv) (An (An (ci (o20 hpre x36 hx36 y37 x54 hx54 y55 y90)) (zr nilN)) (An (zr true) (An (zr true) (zr true)))))
   ·refine swp_skip ?_
    refine swp_seq ?_
    refine swp_ent (zF 0) ?_
    refine zC ([(1,CallSpec.eq (s94 f) [true])]) [1,8] [] (Ak 1 (An (An (An (zr (AV.clo 95 [AV.rp (cFrm f)])) tv) (An (t94 (f)) (An hpre (Ak 1 (fun (i91:Env)=>tv))))) (Ak 1 tv))) ?_
    refine swp_seq ?_
    refine swp_seq ?_
    refine zR [8,94] [] (Ak 6 tv) ?_
    refine zI (!decide ((↑((srt f).length):Int)=(↑(f.pieces.length):Int))) (fun y92 => ?_) (fun y92 => ?_)
    ·refine swp_seq ?_
     refine zR [2] [] (Ak 1 tv) ?_
     refine swp_ret ?_
     exact zT [] (An (Ak 1 tv) (An (An (ci (o21 hpre x36 hx36 y37 x54 hx54 y55 y90 y92)) (zr nilN)) (An (zr true) (An (zr true) (zr true)))))
    ·refine swp_skip ?_
     refine swp_seq ?_
     refine swp_seq ?_
     refine zR [95,96,97] [] (Ak 3 tv) ?_
     refine swp_block ?_
     refine zL (Hint.ann (h34c f) [(95,aInts (srt f)),(96,iv (↑((srt f).length):Int))] [] 30424) (zE hE [] [] [95,96] [] (An (An (An (zr (aInts (srt f))) (zr true)) (An (An (zr (iv (↑((srt f).length):Int))) (zr true)) (An (An (ci (o22 hpre x36 hx36 y37 x54 hx54 y55 y90 y92)) (zr nilN)) tv))) (Ak 1 (An (zr true) (zr true))))) (o23 hpre x36 hx36 y37 x54 hx54 y55 y90 y92) (fun (x93:Nat) hx93 => ?_)
     refine swp_seq ?_
     refine zR [95,96,97,98] [] (Ak 1 tv) ?_
     refine swp_seq ?_
     refine zI (decide ((x93:Int) < (↑((srt f).length):Int))) (fun y94 => ?_) (fun y94 => ?_)
     ·refine swp_skip ?_
      refine swp_seq ?_
      refine swp_block ?_
      refine swp_seq ?_
      refine zR [95,96,97,9,10] [] (Ak 1 (An (An (o24 hpre x36 hx36 y37 x54 hx54 y55 y90 y92 x93 hx93 y94) (o25 hpre x36 hx36 y37 x54 hx54 y55 y90 y92 x93 hx93 y94)) (Ak 3 tv))) ?_
      refine swp_seq ?_
      refine zR [95,96,97,104] [] (Ak 3 tv) ?_
      refine zI (!decide ((x93:Int)=(srt f).getD x93 0)) (fun y95 => ?_) (fun y95 => ?_)
      ·refine swp_seq ?_
       refine zR [2] [] (Ak 1 tv) ?_
       refine swp_ret ?_
       exact zT [] (An (Ak 1 tv) (An (An (ci (o26 hpre x36 hx36 y37 x54 hx54 y55 y90 y92 x93 hx93 y94 y95)) (zr nilN)) (An (zr true) (An (zr true) (zr true)))))
      ·refine swp_skip ?_
       refine zR [95,96,97] [] (An (o27 hpre x36 hx36 y37 x54 hx54 y55 y90 y92 x93 hx93 y94 y95) (Ak 1 tv)) ?_
       exact zn (zE hE [] [] [95,96] [] (An (An (An (zr (aInts (srt f))) (zr true)) (An (An (zr (iv (↑((srt f).length):Int))) (zr true)) (An (An (ci (o28 hpre x36 hx36 y37 x54 hx54 y55 y90 y92 x93 hx93 y94 y95)) (zr nilN)) tv))) (Ak 1 (An (zr true) (zr true))))) (o29 hpre x36 hx36 y37 x54 hx54 y55 y90 y92 x93 hx93 y94 y95) (o30 hpre x36 hx36 y37 x54 hx54 y55 y90 y92 x93 hx93 y94 y95)
     ·refine swp_exit ?_
      refine swp_seq ?_
      refine zR [2] [] (Ak 1 tv) ?_
      refine swp_ret ?_
      exact zT [] (An (Ak 1 tv) (An (An (ci (o31 hpre x36 hx36 y37 x54 hx54 y55 y90 y92 x93 hx93 y94)) (zr nilN)) (An (zr true) (An (zr true) (zr true)))))
theorem t34 (f:Frm):Triple Try.prog 34 (s34 f):=by
 apply w34
 case o0=>intro hp; rw [okS_zero]; simp only [okHeadF,Bool.cond_false_right]
 case o5=>intro hp x hx h; have:=hp.1; exact ⟨by omega,by omega⟩
 case o6=>intro hp x hx h; rw [okS_succ]; simp only [okStrip,Bool.cond_false_right,Bool.and_assoc]
 case o10=>intro hp x hx h; simp only [decide_eq_false_iff_not] at h; rw [okP_zero,show x=f.strips.length by omega]
 case o15=>intro hp x hx h y hy h2; have:=hp.2.1; exact ⟨by omega,by omega⟩
 case o16=>intro hp x hx h y hy h2; rw [okP_succ]; simp only [okPiece,Bool.cond_false_right,Bool.and_assoc]
 case o20=>intro hp x hx h y hy h2 h3; simp only [decide_eq_false_iff_not] at h2; simp only [Bool.not_eq_true'] at h3; exact (check_bad (okFrm_P (by rw [← show y=f.pieces.length by omega]; exact h3))).symm
 case o21=>intro hp x hx h y hy h2 h3 h4; simp only [Bool.not_eq_true',decide_eq_false_iff_not] at h4; exact (check_bad (okFrm_ord (ord_not (j:=0) (.inl (by omega))))).symm
 case o26 =>
  intro hp x hx h y hy h2 h3 h4 z hz h5 h6
  simp only [decide_eq_true_eq] at h5
  simp only [Bool.not_eq_true',decide_eq_false_iff_not] at h6
  exact (check_bad (okFrm_ord (ord_not (.inr ⟨by omega,fun e=>h6 e.symm⟩)))).symm
 case o27=>intro hp x hx h y hy h2 h3 h4 z hz h5 h6; have h7:=all_len f 64 64 hp.2.2.1 hp.2.2.2; have h8:=srt_len f; exact ⟨by omega,by omega⟩
 case o29 =>
  intro hp x hx h y hy h2 h3 h4 z hz h5 h6
  simp only [decide_eq_true_eq] at h5
  simp only [Bool.not_eq_false',decide_eq_true_eq] at h6
  exact ⟨by omega,lt_succ_cases hz.2 h6.symm⟩
 case o31 =>
  intro hp x hx h y hy h2 h3 h4 z hz h5
  simp only [decide_eq_false_iff_not] at h5 h2
  simp only [Bool.not_eq_false',decide_eq_true_eq] at h4 h3
  refine (check_good ?_).symm
  rw [okFrm_eq,← show y=f.pieces.length by omega,h3,ord_of_srt (by omega) (fun j hj=>hz.2 j (by omega))]; rfl
 all_goals (try ((repeat intro _) <;> (try simp only [Bool.cond_true_left,Bool.cond_false_right,Bool.not_not,Bool.not_eq_true',Bool.not_eq_false',Bool.or_eq_true,Bool.or_eq_false_iff,Bool.and_eq_true,decide_eq_true_eq,decide_eq_false_iff_not,inI,big,fitsF,smallF,goodL] at *) <;> first | (exact rfl) | omega | (exact ⟨Nat.zero_le _,fun j hj=>absurd hj (Nat.not_lt_zero j)⟩) | (simp_all; done) | (simp_all; omega)))
theorem w35 (f:Frm)
  (o0:fitsF f->(!within f.length 0 300)=false->(!!within f.length 0 300)=true)
  (o1:fitsF f->(bif !within f.length 0 300 then true else !within f.slack 0 9)=false->(!bif !within f.length 0 300 then true else !within f.slack 0 9)=true)
  (o2:fitsF f->(bif bif !within f.length 0 300 then true else !within f.slack 0 9 then true else decide (3 < (↑(f.strips.length):Int)))=false->(!bif bif !within f.length 0 300 then true else !within f.slack 0 9 then true else decide (3 < (↑(f.strips.length):Int)))=true)
  (o3:fitsF f->(bif bif bif !within f.length 0 300 then true else !within f.slack 0 9 then true else decide (3 < (↑(f.strips.length):Int)) then true else decide (6 < (↑(f.pieces.length):Int)))=false->(!bif bif bif !within f.length 0 300 then true else !within f.slack 0 9 then true else decide (3 < (↑(f.strips.length):Int)) then true else decide (6 < (↑(f.pieces.length):Int)))=true)
  (o4:fitsF f->(bif bif bif bif !within f.length 0 300 then true else !within f.slack 0 9 then true else decide (3 < (↑(f.strips.length):Int)) then true else decide (6 < (↑(f.pieces.length):Int)) then true else decide (3 < (↑(f.columns.length):Int)))=true->30=checkF f)
  (o5:fitsF f->(bif bif bif bif !within f.length 0 300 then true else !within f.slack 0 9 then true else decide (3 < (↑(f.strips.length):Int)) then true else decide (6 < (↑(f.pieces.length):Int)) then true else decide (3 < (↑(f.columns.length):Int)))=false->0=(↑0:Int))
  (o6:fitsF f->(bif bif bif bif !within f.length 0 300 then true else !within f.slack 0 9 then true else decide (3 < (↑(f.strips.length):Int)) then true else decide (6 < (↑(f.pieces.length):Int)) then true else decide (3 < (↑(f.columns.length):Int)))=false->0<=f.strips.length /\ ∀ (j:Nat),j < 0->okStrip (stp f j)=true)
  (o7:fitsF f->(bif bif bif bif !within f.length 0 300 then true else !within f.slack 0 9 then true else decide (3 < (↑(f.strips.length):Int)) then true else decide (6 < (↑(f.pieces.length):Int)) then true else decide (3 < (↑(f.columns.length):Int)))=false -> ∀ (x39:Nat),(x39<=f.strips.length /\ ∀ (j:Nat),j < x39->okStrip (stp f j)=true)->decide ((x39:Int) < (↑(f.strips.length):Int))=true->0<=(x39:Int))
  (o8:fitsF f->(bif bif bif bif !within f.length 0 300 then true else !within f.slack 0 9 then true else decide (3 < (↑(f.strips.length):Int)) then true else decide (6 < (↑(f.pieces.length):Int)) then true else decide (3 < (↑(f.columns.length):Int)))=false -> ∀ (x39:Nat),(x39<=f.strips.length /\ ∀ (j:Nat),j < x39->okStrip (stp f j)=true)->decide ((x39:Int) < (↑(f.strips.length):Int))=true->(x39:Int) < (↑(f.strips.length):Int))
  (o9:fitsF f->(bif bif bif bif !within f.length 0 300 then true else !within f.slack 0 9 then true else decide (3 < (↑(f.strips.length):Int)) then true else decide (6 < (↑(f.pieces.length):Int)) then true else decide (3 < (↑(f.columns.length):Int)))=false -> ∀ (x39:Nat),(x39<=f.strips.length /\ ∀ (j:Nat),j < x39->okStrip (stp f j)=true)->decide ((x39:Int) < (↑(f.strips.length):Int))=true->(!!within (stp f x39).thick 1 30)=true->0<=(x39:Int))
  (o10:fitsF f->(bif bif bif bif !within f.length 0 300 then true else !within f.slack 0 9 then true else decide (3 < (↑(f.strips.length):Int)) then true else decide (6 < (↑(f.pieces.length):Int)) then true else decide (3 < (↑(f.columns.length):Int)))=false -> ∀ (x39:Nat),(x39<=f.strips.length /\ ∀ (j:Nat),j < x39->okStrip (stp f j)=true)->decide ((x39:Int) < (↑(f.strips.length):Int))=true->(!!within (stp f x39).thick 1 30)=true->(x39:Int) < (↑(f.strips.length):Int))
  (o11:fitsF f->(bif bif bif bif !within f.length 0 300 then true else !within f.slack 0 9 then true else decide (3 < (↑(f.strips.length):Int)) then true else decide (6 < (↑(f.pieces.length):Int)) then true else decide (3 < (↑(f.columns.length):Int)))=false -> ∀ (x39:Nat),(x39<=f.strips.length /\ ∀ (j:Nat),j < x39->okStrip (stp f j)=true)->decide ((x39:Int) < (↑(f.strips.length):Int))=true->(!within (stp f x39).thick 1 30)=false->(!!within (stp f x39).thick 1 30)=true)
  (o12:fitsF f->(bif bif bif bif !within f.length 0 300 then true else !within f.slack 0 9 then true else decide (3 < (↑(f.strips.length):Int)) then true else decide (6 < (↑(f.pieces.length):Int)) then true else decide (3 < (↑(f.columns.length):Int)))=false -> ∀ (x39:Nat),(x39<=f.strips.length /\ ∀ (j:Nat),j < x39->okStrip (stp f j)=true)->decide ((x39:Int) < (↑(f.strips.length):Int))=true->(bif !within (stp f x39).thick 1 30 then true else !within (stp f x39).many 0 4)=true->30=checkF f)
  (o13:fitsF f->(bif bif bif bif !within f.length 0 300 then true else !within f.slack 0 9 then true else decide (3 < (↑(f.strips.length):Int)) then true else decide (6 < (↑(f.pieces.length):Int)) then true else decide (3 < (↑(f.columns.length):Int)))=false -> ∀ (x39:Nat),(x39<=f.strips.length /\ ∀ (j:Nat),j < x39->okStrip (stp f j)=true)->decide ((x39:Int) < (↑(f.strips.length):Int))=true->(bif !within (stp f x39).thick 1 30 then true else !within (stp f x39).many 0 4)=false->inI ((x39:Int) + 1))
  (o14:fitsF f->(bif bif bif bif !within f.length 0 300 then true else !within f.slack 0 9 then true else decide (3 < (↑(f.strips.length):Int)) then true else decide (6 < (↑(f.pieces.length):Int)) then true else decide (3 < (↑(f.columns.length):Int)))=false -> ∀ (x39:Nat),(x39<=f.strips.length /\ ∀ (j:Nat),j < x39->okStrip (stp f j)=true)->decide ((x39:Int) < (↑(f.strips.length):Int))=true->(bif !within (stp f x39).thick 1 30 then true else !within (stp f x39).many 0 4)=false->(x39:Int) + 1=(↑(x39 + 1):Int))
  (o15:fitsF f->(bif bif bif bif !within f.length 0 300 then true else !within f.slack 0 9 then true else decide (3 < (↑(f.strips.length):Int)) then true else decide (6 < (↑(f.pieces.length):Int)) then true else decide (3 < (↑(f.columns.length):Int)))=false -> ∀ (x39:Nat),(x39<=f.strips.length /\ ∀ (j:Nat),j < x39->okStrip (stp f j)=true)->decide ((x39:Int) < (↑(f.strips.length):Int))=true->(bif !within (stp f x39).thick 1 30 then true else !within (stp f x39).many 0 4)=false->x39 + 1<=f.strips.length /\ ∀ (j:Nat),j < x39 + 1->okStrip (stp f j)=true)
  (o16:fitsF f->(bif bif bif bif !within f.length 0 300 then true else !within f.slack 0 9 then true else decide (3 < (↑(f.strips.length):Int)) then true else decide (6 < (↑(f.pieces.length):Int)) then true else decide (3 < (↑(f.columns.length):Int)))=false -> ∀ (x39:Nat),(x39<=f.strips.length /\ ∀ (j:Nat),j < x39->okStrip (stp f j)=true)->decide ((x39:Int) < (↑(f.strips.length):Int))=true->(bif !within (stp f x39).thick 1 30 then true else !within (stp f x39).many 0 4)=false->f.strips.length - (x39 + 1) < f.strips.length - x39)
  (o17:fitsF f->(bif bif bif bif !within f.length 0 300 then true else !within f.slack 0 9 then true else decide (3 < (↑(f.strips.length):Int)) then true else decide (6 < (↑(f.pieces.length):Int)) then true else decide (3 < (↑(f.columns.length):Int)))=false -> ∀ (x39:Nat),(x39<=f.strips.length /\ ∀ (j:Nat),j < x39->okStrip (stp f j)=true)->decide ((x39:Int) < (↑(f.strips.length):Int))=false->0=(↑0:Int))
  (o18:fitsF f->(bif bif bif bif !within f.length 0 300 then true else !within f.slack 0 9 then true else decide (3 < (↑(f.strips.length):Int)) then true else decide (6 < (↑(f.pieces.length):Int)) then true else decide (3 < (↑(f.columns.length):Int)))=false -> ∀ (x39:Nat),(x39<=f.strips.length /\ ∀ (j:Nat),j < x39->okStrip (stp f j)=true)->decide ((x39:Int) < (↑(f.strips.length):Int))=false->0<=f.pieces.length /\ ∀ (j:Nat),j < 0->okPiece (pc f j)=true/\cntL (allC f) (j:Int)=1)
  (o19:fitsF f->(bif bif bif bif !within f.length 0 300 then true else !within f.slack 0 9 then true else decide (3 < (↑(f.strips.length):Int)) then true else decide (6 < (↑(f.pieces.length):Int)) then true else decide (3 < (↑(f.columns.length):Int)))=false -> ∀ (x39:Nat),(x39<=f.strips.length /\ ∀ (j:Nat),j < x39->okStrip (stp f j)=true)->decide ((x39:Int) < (↑(f.strips.length):Int))=false -> ∀ (x61:Nat),(x61<=f.pieces.length /\ ∀ (j:Nat),j < x61->okPiece (pc f j)=true/\cntL (allC f) (j:Int)=1)->decide ((x61:Int) < (↑(f.pieces.length):Int))=true->0<=(x61:Int))
  (o20:fitsF f->(bif bif bif bif !within f.length 0 300 then true else !within f.slack 0 9 then true else decide (3 < (↑(f.strips.length):Int)) then true else decide (6 < (↑(f.pieces.length):Int)) then true else decide (3 < (↑(f.columns.length):Int)))=false -> ∀ (x39:Nat),(x39<=f.strips.length /\ ∀ (j:Nat),j < x39->okStrip (stp f j)=true)->decide ((x39:Int) < (↑(f.strips.length):Int))=false -> ∀ (x61:Nat),(x61<=f.pieces.length /\ ∀ (j:Nat),j < x61->okPiece (pc f j)=true/\cntL (allC f) (j:Int)=1)->decide ((x61:Int) < (↑(f.pieces.length):Int))=true->(x61:Int) < (↑(f.pieces.length):Int))
  (o21:fitsF f->(bif bif bif bif !within f.length 0 300 then true else !within f.slack 0 9 then true else decide (3 < (↑(f.strips.length):Int)) then true else decide (6 < (↑(f.pieces.length):Int)) then true else decide (3 < (↑(f.columns.length):Int)))=false -> ∀ (x39:Nat),(x39<=f.strips.length /\ ∀ (j:Nat),j < x39->okStrip (stp f j)=true)->decide ((x39:Int) < (↑(f.strips.length):Int))=false -> ∀ (x61:Nat),(x61<=f.pieces.length /\ ∀ (j:Nat),j < x61->okPiece (pc f j)=true/\cntL (allC f) (j:Int)=1)->decide ((x61:Int) < (↑(f.pieces.length):Int))=true->(!!isSpan (Span.mk (pc f x61).lo (pc f x61).hi) 99)=true->0<=(x61:Int))
  (o22:fitsF f->(bif bif bif bif !within f.length 0 300 then true else !within f.slack 0 9 then true else decide (3 < (↑(f.strips.length):Int)) then true else decide (6 < (↑(f.pieces.length):Int)) then true else decide (3 < (↑(f.columns.length):Int)))=false -> ∀ (x39:Nat),(x39<=f.strips.length /\ ∀ (j:Nat),j < x39->okStrip (stp f j)=true)->decide ((x39:Int) < (↑(f.strips.length):Int))=false -> ∀ (x61:Nat),(x61<=f.pieces.length /\ ∀ (j:Nat),j < x61->okPiece (pc f j)=true/\cntL (allC f) (j:Int)=1)->decide ((x61:Int) < (↑(f.pieces.length):Int))=true->(!!isSpan (Span.mk (pc f x61).lo (pc f x61).hi) 99)=true->(x61:Int) < (↑(f.pieces.length):Int))
  (o23:fitsF f->(bif bif bif bif !within f.length 0 300 then true else !within f.slack 0 9 then true else decide (3 < (↑(f.strips.length):Int)) then true else decide (6 < (↑(f.pieces.length):Int)) then true else decide (3 < (↑(f.columns.length):Int)))=false -> ∀ (x39:Nat),(x39<=f.strips.length /\ ∀ (j:Nat),j < x39->okStrip (stp f j)=true)->decide ((x39:Int) < (↑(f.strips.length):Int))=false -> ∀ (x61:Nat),(x61<=f.pieces.length /\ ∀ (j:Nat),j < x61->okPiece (pc f j)=true/\cntL (allC f) (j:Int)=1)->decide ((x61:Int) < (↑(f.pieces.length):Int))=true->(!isSpan (Span.mk (pc f x61).lo (pc f x61).hi) 99)=false->(!!isSpan (Span.mk (pc f x61).lo (pc f x61).hi) 99)=true)
  (o24:fitsF f->(bif bif bif bif !within f.length 0 300 then true else !within f.slack 0 9 then true else decide (3 < (↑(f.strips.length):Int)) then true else decide (6 < (↑(f.pieces.length):Int)) then true else decide (3 < (↑(f.columns.length):Int)))=false -> ∀ (x39:Nat),(x39<=f.strips.length /\ ∀ (j:Nat),j < x39->okStrip (stp f j)=true)->decide ((x39:Int) < (↑(f.strips.length):Int))=false -> ∀ (x61:Nat),(x61<=f.pieces.length /\ ∀ (j:Nat),j < x61->okPiece (pc f j)=true/\cntL (allC f) (j:Int)=1)->decide ((x61:Int) < (↑(f.pieces.length):Int))=true->(!bif !isSpan (Span.mk (pc f x61).lo (pc f x61).hi) 99 then true else !within (pc f x61).pence 0 99)=true->f.columns.length<=3)
  (o25:fitsF f->(bif bif bif bif !within f.length 0 300 then true else !within f.slack 0 9 then true else decide (3 < (↑(f.strips.length):Int)) then true else decide (6 < (↑(f.pieces.length):Int)) then true else decide (3 < (↑(f.columns.length):Int)))=false -> ∀ (x39:Nat),(x39<=f.strips.length /\ ∀ (j:Nat),j < x39->okStrip (stp f j)=true)->decide ((x39:Int) < (↑(f.strips.length):Int))=false -> ∀ (x61:Nat),(x61<=f.pieces.length /\ ∀ (j:Nat),j < x61->okPiece (pc f j)=true/\cntL (allC f) (j:Int)=1)->decide ((x61:Int) < (↑(f.pieces.length):Int))=true->(bif !isSpan (Span.mk (pc f x61).lo (pc f x61).hi) 99 then true else !within (pc f x61).pence 0 99)=false->(!bif !isSpan (Span.mk (pc f x61).lo (pc f x61).hi) 99 then true else !within (pc f x61).pence 0 99)=true)
  (o26:fitsF f->(bif bif bif bif !within f.length 0 300 then true else !within f.slack 0 9 then true else decide (3 < (↑(f.strips.length):Int)) then true else decide (6 < (↑(f.pieces.length):Int)) then true else decide (3 < (↑(f.columns.length):Int)))=false -> ∀ (x39:Nat),(x39<=f.strips.length /\ ∀ (j:Nat),j < x39->okStrip (stp f j)=true)->decide ((x39:Int) < (↑(f.strips.length):Int))=false -> ∀ (x61:Nat),(x61<=f.pieces.length /\ ∀ (j:Nat),j < x61->okPiece (pc f j)=true/\cntL (allC f) (j:Int)=1)->decide ((x61:Int) < (↑(f.pieces.length):Int))=true->(bif bif !isSpan (Span.mk (pc f x61).lo (pc f x61).hi) 99 then true else !within (pc f x61).pence 0 99 then true else !decide (cntL (allC f) (x61:Int)=1))=true->30=checkF f)
  (o27:fitsF f->(bif bif bif bif !within f.length 0 300 then true else !within f.slack 0 9 then true else decide (3 < (↑(f.strips.length):Int)) then true else decide (6 < (↑(f.pieces.length):Int)) then true else decide (3 < (↑(f.columns.length):Int)))=false -> ∀ (x39:Nat),(x39<=f.strips.length /\ ∀ (j:Nat),j < x39->okStrip (stp f j)=true)->decide ((x39:Int) < (↑(f.strips.length):Int))=false -> ∀ (x61:Nat),(x61<=f.pieces.length /\ ∀ (j:Nat),j < x61->okPiece (pc f j)=true/\cntL (allC f) (j:Int)=1)->decide ((x61:Int) < (↑(f.pieces.length):Int))=true->(bif bif !isSpan (Span.mk (pc f x61).lo (pc f x61).hi) 99 then true else !within (pc f x61).pence 0 99 then true else !decide (cntL (allC f) (x61:Int)=1))=false->inI ((x61:Int) + 1))
  (o28:fitsF f->(bif bif bif bif !within f.length 0 300 then true else !within f.slack 0 9 then true else decide (3 < (↑(f.strips.length):Int)) then true else decide (6 < (↑(f.pieces.length):Int)) then true else decide (3 < (↑(f.columns.length):Int)))=false -> ∀ (x39:Nat),(x39<=f.strips.length /\ ∀ (j:Nat),j < x39->okStrip (stp f j)=true)->decide ((x39:Int) < (↑(f.strips.length):Int))=false -> ∀ (x61:Nat),(x61<=f.pieces.length /\ ∀ (j:Nat),j < x61->okPiece (pc f j)=true/\cntL (allC f) (j:Int)=1)->decide ((x61:Int) < (↑(f.pieces.length):Int))=true->(bif bif !isSpan (Span.mk (pc f x61).lo (pc f x61).hi) 99 then true else !within (pc f x61).pence 0 99 then true else !decide (cntL (allC f) (x61:Int)=1))=false->(x61:Int) + 1=(↑(x61 + 1):Int))
  (o29:fitsF f->(bif bif bif bif !within f.length 0 300 then true else !within f.slack 0 9 then true else decide (3 < (↑(f.strips.length):Int)) then true else decide (6 < (↑(f.pieces.length):Int)) then true else decide (3 < (↑(f.columns.length):Int)))=false -> ∀ (x39:Nat),(x39<=f.strips.length /\ ∀ (j:Nat),j < x39->okStrip (stp f j)=true)->decide ((x39:Int) < (↑(f.strips.length):Int))=false -> ∀ (x61:Nat),(x61<=f.pieces.length /\ ∀ (j:Nat),j < x61->okPiece (pc f j)=true/\cntL (allC f) (j:Int)=1)->decide ((x61:Int) < (↑(f.pieces.length):Int))=true->(bif bif !isSpan (Span.mk (pc f x61).lo (pc f x61).hi) 99 then true else !within (pc f x61).pence 0 99 then true else !decide (cntL (allC f) (x61:Int)=1))=false->x61 + 1<=f.pieces.length /\ ∀ (j:Nat),j < x61 + 1->okPiece (pc f j)=true/\cntL (allC f) (j:Int)=1)
  (o30:fitsF f->(bif bif bif bif !within f.length 0 300 then true else !within f.slack 0 9 then true else decide (3 < (↑(f.strips.length):Int)) then true else decide (6 < (↑(f.pieces.length):Int)) then true else decide (3 < (↑(f.columns.length):Int)))=false -> ∀ (x39:Nat),(x39<=f.strips.length /\ ∀ (j:Nat),j < x39->okStrip (stp f j)=true)->decide ((x39:Int) < (↑(f.strips.length):Int))=false -> ∀ (x61:Nat),(x61<=f.pieces.length /\ ∀ (j:Nat),j < x61->okPiece (pc f j)=true/\cntL (allC f) (j:Int)=1)->decide ((x61:Int) < (↑(f.pieces.length):Int))=true->(bif bif !isSpan (Span.mk (pc f x61).lo (pc f x61).hi) 99 then true else !within (pc f x61).pence 0 99 then true else !decide (cntL (allC f) (x61:Int)=1))=false->f.pieces.length - (x61 + 1) < f.pieces.length - x61)
  (o31:fitsF f->(bif bif bif bif !within f.length 0 300 then true else !within f.slack 0 9 then true else decide (3 < (↑(f.strips.length):Int)) then true else decide (6 < (↑(f.pieces.length):Int)) then true else decide (3 < (↑(f.columns.length):Int)))=false -> ∀ (x39:Nat),(x39<=f.strips.length /\ ∀ (j:Nat),j < x39->okStrip (stp f j)=true)->decide ((x39:Int) < (↑(f.strips.length):Int))=false -> ∀ (x61:Nat),(x61<=f.pieces.length /\ ∀ (j:Nat),j < x61->okPiece (pc f j)=true/\cntL (allC f) (j:Int)=1)->decide ((x61:Int) < (↑(f.pieces.length):Int))=false->0=(↑0:Int))
  (o32:fitsF f->(bif bif bif bif !within f.length 0 300 then true else !within f.slack 0 9 then true else decide (3 < (↑(f.strips.length):Int)) then true else decide (6 < (↑(f.pieces.length):Int)) then true else decide (3 < (↑(f.columns.length):Int)))=false -> ∀ (x39:Nat),(x39<=f.strips.length /\ ∀ (j:Nat),j < x39->okStrip (stp f j)=true)->decide ((x39:Int) < (↑(f.strips.length):Int))=false -> ∀ (x61:Nat),(x61<=f.pieces.length /\ ∀ (j:Nat),j < x61->okPiece (pc f j)=true/\cntL (allC f) (j:Int)=1)->decide ((x61:Int) < (↑(f.pieces.length):Int))=false->0<=f.columns.length /\ ∀ (j:Nat),j < 0->List.all (col f j) (isPc f)=true)
  (o33:fitsF f->(bif bif bif bif !within f.length 0 300 then true else !within f.slack 0 9 then true else decide (3 < (↑(f.strips.length):Int)) then true else decide (6 < (↑(f.pieces.length):Int)) then true else decide (3 < (↑(f.columns.length):Int)))=false -> ∀ (x39:Nat),(x39<=f.strips.length /\ ∀ (j:Nat),j < x39->okStrip (stp f j)=true)->decide ((x39:Int) < (↑(f.strips.length):Int))=false -> ∀ (x61:Nat),(x61<=f.pieces.length /\ ∀ (j:Nat),j < x61->okPiece (pc f j)=true/\cntL (allC f) (j:Int)=1)->decide ((x61:Int) < (↑(f.pieces.length):Int))=false -> ∀ (x93:Nat),(x93<=f.columns.length /\ ∀ (j:Nat),j < x93->List.all (col f j) (isPc f)=true)->decide ((x93:Int) < (↑(f.columns.length):Int))=true->0=(↑0:Int))
  (o34:fitsF f->(bif bif bif bif !within f.length 0 300 then true else !within f.slack 0 9 then true else decide (3 < (↑(f.strips.length):Int)) then true else decide (6 < (↑(f.pieces.length):Int)) then true else decide (3 < (↑(f.columns.length):Int)))=false -> ∀ (x39:Nat),(x39<=f.strips.length /\ ∀ (j:Nat),j < x39->okStrip (stp f j)=true)->decide ((x39:Int) < (↑(f.strips.length):Int))=false -> ∀ (x61:Nat),(x61<=f.pieces.length /\ ∀ (j:Nat),j < x61->okPiece (pc f j)=true/\cntL (allC f) (j:Int)=1)->decide ((x61:Int) < (↑(f.pieces.length):Int))=false -> ∀ (x93:Nat),(x93<=f.columns.length /\ ∀ (j:Nat),j < x93->List.all (col f j) (isPc f)=true)->decide ((x93:Int) < (↑(f.columns.length):Int))=true->0<=(col f x93).length /\ ∀ (j:Nat),j < 0->isPc f ((col f x93).getD j 0)=true)
  (o35:fitsF f->(bif bif bif bif !within f.length 0 300 then true else !within f.slack 0 9 then true else decide (3 < (↑(f.strips.length):Int)) then true else decide (6 < (↑(f.pieces.length):Int)) then true else decide (3 < (↑(f.columns.length):Int)))=false -> ∀ (x39:Nat),(x39<=f.strips.length /\ ∀ (j:Nat),j < x39->okStrip (stp f j)=true)->decide ((x39:Int) < (↑(f.strips.length):Int))=false -> ∀ (x61:Nat),(x61<=f.pieces.length /\ ∀ (j:Nat),j < x61->okPiece (pc f j)=true/\cntL (allC f) (j:Int)=1)->decide ((x61:Int) < (↑(f.pieces.length):Int))=false -> ∀ (x93:Nat),(x93<=f.columns.length /\ ∀ (j:Nat),j < x93->List.all (col f j) (isPc f)=true)->decide ((x93:Int) < (↑(f.columns.length):Int))=true -> ∀ (x95:Nat),(x95<=(col f x93).length /\ ∀ (j:Nat),j < x95->isPc f ((col f x93).getD j 0)=true)->0<=(x93:Int))
  (o36:fitsF f->(bif bif bif bif !within f.length 0 300 then true else !within f.slack 0 9 then true else decide (3 < (↑(f.strips.length):Int)) then true else decide (6 < (↑(f.pieces.length):Int)) then true else decide (3 < (↑(f.columns.length):Int)))=false -> ∀ (x39:Nat),(x39<=f.strips.length /\ ∀ (j:Nat),j < x39->okStrip (stp f j)=true)->decide ((x39:Int) < (↑(f.strips.length):Int))=false -> ∀ (x61:Nat),(x61<=f.pieces.length /\ ∀ (j:Nat),j < x61->okPiece (pc f j)=true/\cntL (allC f) (j:Int)=1)->decide ((x61:Int) < (↑(f.pieces.length):Int))=false -> ∀ (x93:Nat),(x93<=f.columns.length /\ ∀ (j:Nat),j < x93->List.all (col f j) (isPc f)=true)->decide ((x93:Int) < (↑(f.columns.length):Int))=true -> ∀ (x95:Nat),(x95<=(col f x93).length /\ ∀ (j:Nat),j < x95->isPc f ((col f x93).getD j 0)=true)->(x93:Int) < (↑(f.columns.length):Int))
  (o37:fitsF f->(bif bif bif bif !within f.length 0 300 then true else !within f.slack 0 9 then true else decide (3 < (↑(f.strips.length):Int)) then true else decide (6 < (↑(f.pieces.length):Int)) then true else decide (3 < (↑(f.columns.length):Int)))=false -> ∀ (x39:Nat),(x39<=f.strips.length /\ ∀ (j:Nat),j < x39->okStrip (stp f j)=true)->decide ((x39:Int) < (↑(f.strips.length):Int))=false -> ∀ (x61:Nat),(x61<=f.pieces.length /\ ∀ (j:Nat),j < x61->okPiece (pc f j)=true/\cntL (allC f) (j:Int)=1)->decide ((x61:Int) < (↑(f.pieces.length):Int))=false -> ∀ (x93:Nat),(x93<=f.columns.length /\ ∀ (j:Nat),j < x93->List.all (col f j) (isPc f)=true)->decide ((x93:Int) < (↑(f.columns.length):Int))=true -> ∀ (x95:Nat),(x95<=(col f x93).length /\ ∀ (j:Nat),j < x95->isPc f ((col f x93).getD j 0)=true)->decide ((x95:Int) < (↑((col f x93).length):Int))=true->0<=(x93:Int))
  (o38:fitsF f->(bif bif bif bif !within f.length 0 300 then true else !within f.slack 0 9 then true else decide (3 < (↑(f.strips.length):Int)) then true else decide (6 < (↑(f.pieces.length):Int)) then true else decide (3 < (↑(f.columns.length):Int)))=false -> ∀ (x39:Nat),(x39<=f.strips.length /\ ∀ (j:Nat),j < x39->okStrip (stp f j)=true)->decide ((x39:Int) < (↑(f.strips.length):Int))=false -> ∀ (x61:Nat),(x61<=f.pieces.length /\ ∀ (j:Nat),j < x61->okPiece (pc f j)=true/\cntL (allC f) (j:Int)=1)->decide ((x61:Int) < (↑(f.pieces.length):Int))=false -> ∀ (x93:Nat),(x93<=f.columns.length /\ ∀ (j:Nat),j < x93->List.all (col f j) (isPc f)=true)->decide ((x93:Int) < (↑(f.columns.length):Int))=true -> ∀ (x95:Nat),(x95<=(col f x93).length /\ ∀ (j:Nat),j < x95->isPc f ((col f x93).getD j 0)=true)->decide ((x95:Int) < (↑((col f x93).length):Int))=true->(x93:Int) < (↑(f.columns.length):Int))
  (o39:fitsF f->(bif bif bif bif !within f.length 0 300 then true else !within f.slack 0 9 then true else decide (3 < (↑(f.strips.length):Int)) then true else decide (6 < (↑(f.pieces.length):Int)) then true else decide (3 < (↑(f.columns.length):Int)))=false -> ∀ (x39:Nat),(x39<=f.strips.length /\ ∀ (j:Nat),j < x39->okStrip (stp f j)=true)->decide ((x39:Int) < (↑(f.strips.length):Int))=false -> ∀ (x61:Nat),(x61<=f.pieces.length /\ ∀ (j:Nat),j < x61->okPiece (pc f j)=true/\cntL (allC f) (j:Int)=1)->decide ((x61:Int) < (↑(f.pieces.length):Int))=false -> ∀ (x93:Nat),(x93<=f.columns.length /\ ∀ (j:Nat),j < x93->List.all (col f j) (isPc f)=true)->decide ((x93:Int) < (↑(f.columns.length):Int))=true -> ∀ (x95:Nat),(x95<=(col f x93).length /\ ∀ (j:Nat),j < x95->isPc f ((col f x93).getD j 0)=true)->decide ((x95:Int) < (↑((col f x93).length):Int))=true->0<=(x95:Int))
  (o40:fitsF f->(bif bif bif bif !within f.length 0 300 then true else !within f.slack 0 9 then true else decide (3 < (↑(f.strips.length):Int)) then true else decide (6 < (↑(f.pieces.length):Int)) then true else decide (3 < (↑(f.columns.length):Int)))=false -> ∀ (x39:Nat),(x39<=f.strips.length /\ ∀ (j:Nat),j < x39->okStrip (stp f j)=true)->decide ((x39:Int) < (↑(f.strips.length):Int))=false -> ∀ (x61:Nat),(x61<=f.pieces.length /\ ∀ (j:Nat),j < x61->okPiece (pc f j)=true/\cntL (allC f) (j:Int)=1)->decide ((x61:Int) < (↑(f.pieces.length):Int))=false -> ∀ (x93:Nat),(x93<=f.columns.length /\ ∀ (j:Nat),j < x93->List.all (col f j) (isPc f)=true)->decide ((x93:Int) < (↑(f.columns.length):Int))=true -> ∀ (x95:Nat),(x95<=(col f x93).length /\ ∀ (j:Nat),j < x95->isPc f ((col f x93).getD j 0)=true)->decide ((x95:Int) < (↑((col f x93).length):Int))=true->(x95:Int) < (↑((col f x93).length):Int))
  (o41:fitsF f->(bif bif bif bif !within f.length 0 300 then true else !within f.slack 0 9 then true else decide (3 < (↑(f.strips.length):Int)) then true else decide (6 < (↑(f.pieces.length):Int)) then true else decide (3 < (↑(f.columns.length):Int)))=false -> ∀ (x39:Nat),(x39<=f.strips.length /\ ∀ (j:Nat),j < x39->okStrip (stp f j)=true)->decide ((x39:Int) < (↑(f.strips.length):Int))=false -> ∀ (x61:Nat),(x61<=f.pieces.length /\ ∀ (j:Nat),j < x61->okPiece (pc f j)=true/\cntL (allC f) (j:Int)=1)->decide ((x61:Int) < (↑(f.pieces.length):Int))=false -> ∀ (x93:Nat),(x93<=f.columns.length /\ ∀ (j:Nat),j < x93->List.all (col f j) (isPc f)=true)->decide ((x93:Int) < (↑(f.columns.length):Int))=true -> ∀ (x95:Nat),(x95<=(col f x93).length /\ ∀ (j:Nat),j < x95->isPc f ((col f x93).getD j 0)=true)->decide ((x95:Int) < (↑((col f x93).length):Int))=true->(!isPc f ((col f x93).getD x95 0))=true->30=checkF f)
  (o42:fitsF f->(bif bif bif bif !within f.length 0 300 then true else !within f.slack 0 9 then true else decide (3 < (↑(f.strips.length):Int)) then true else decide (6 < (↑(f.pieces.length):Int)) then true else decide (3 < (↑(f.columns.length):Int)))=false -> ∀ (x39:Nat),(x39<=f.strips.length /\ ∀ (j:Nat),j < x39->okStrip (stp f j)=true)->decide ((x39:Int) < (↑(f.strips.length):Int))=false -> ∀ (x61:Nat),(x61<=f.pieces.length /\ ∀ (j:Nat),j < x61->okPiece (pc f j)=true/\cntL (allC f) (j:Int)=1)->decide ((x61:Int) < (↑(f.pieces.length):Int))=false -> ∀ (x93:Nat),(x93<=f.columns.length /\ ∀ (j:Nat),j < x93->List.all (col f j) (isPc f)=true)->decide ((x93:Int) < (↑(f.columns.length):Int))=true -> ∀ (x95:Nat),(x95<=(col f x93).length /\ ∀ (j:Nat),j < x95->isPc f ((col f x93).getD j 0)=true)->decide ((x95:Int) < (↑((col f x93).length):Int))=true->(!isPc f ((col f x93).getD x95 0))=false->inI ((x95:Int) + 1))
  (o43:fitsF f->(bif bif bif bif !within f.length 0 300 then true else !within f.slack 0 9 then true else decide (3 < (↑(f.strips.length):Int)) then true else decide (6 < (↑(f.pieces.length):Int)) then true else decide (3 < (↑(f.columns.length):Int)))=false -> ∀ (x39:Nat),(x39<=f.strips.length /\ ∀ (j:Nat),j < x39->okStrip (stp f j)=true)->decide ((x39:Int) < (↑(f.strips.length):Int))=false -> ∀ (x61:Nat),(x61<=f.pieces.length /\ ∀ (j:Nat),j < x61->okPiece (pc f j)=true/\cntL (allC f) (j:Int)=1)->decide ((x61:Int) < (↑(f.pieces.length):Int))=false -> ∀ (x93:Nat),(x93<=f.columns.length /\ ∀ (j:Nat),j < x93->List.all (col f j) (isPc f)=true)->decide ((x93:Int) < (↑(f.columns.length):Int))=true -> ∀ (x95:Nat),(x95<=(col f x93).length /\ ∀ (j:Nat),j < x95->isPc f ((col f x93).getD j 0)=true)->decide ((x95:Int) < (↑((col f x93).length):Int))=true->(!isPc f ((col f x93).getD x95 0))=false->(x95:Int) + 1=(↑(x95 + 1):Int))
  (o44:fitsF f->(bif bif bif bif !within f.length 0 300 then true else !within f.slack 0 9 then true else decide (3 < (↑(f.strips.length):Int)) then true else decide (6 < (↑(f.pieces.length):Int)) then true else decide (3 < (↑(f.columns.length):Int)))=false -> ∀ (x39:Nat),(x39<=f.strips.length /\ ∀ (j:Nat),j < x39->okStrip (stp f j)=true)->decide ((x39:Int) < (↑(f.strips.length):Int))=false -> ∀ (x61:Nat),(x61<=f.pieces.length /\ ∀ (j:Nat),j < x61->okPiece (pc f j)=true/\cntL (allC f) (j:Int)=1)->decide ((x61:Int) < (↑(f.pieces.length):Int))=false -> ∀ (x93:Nat),(x93<=f.columns.length /\ ∀ (j:Nat),j < x93->List.all (col f j) (isPc f)=true)->decide ((x93:Int) < (↑(f.columns.length):Int))=true -> ∀ (x95:Nat),(x95<=(col f x93).length /\ ∀ (j:Nat),j < x95->isPc f ((col f x93).getD j 0)=true)->decide ((x95:Int) < (↑((col f x93).length):Int))=true->(!isPc f ((col f x93).getD x95 0))=false->x95 + 1<=(col f x93).length /\ ∀ (j:Nat),j < x95 + 1->isPc f ((col f x93).getD j 0)=true)
  (o45:fitsF f->(bif bif bif bif !within f.length 0 300 then true else !within f.slack 0 9 then true else decide (3 < (↑(f.strips.length):Int)) then true else decide (6 < (↑(f.pieces.length):Int)) then true else decide (3 < (↑(f.columns.length):Int)))=false -> ∀ (x39:Nat),(x39<=f.strips.length /\ ∀ (j:Nat),j < x39->okStrip (stp f j)=true)->decide ((x39:Int) < (↑(f.strips.length):Int))=false -> ∀ (x61:Nat),(x61<=f.pieces.length /\ ∀ (j:Nat),j < x61->okPiece (pc f j)=true/\cntL (allC f) (j:Int)=1)->decide ((x61:Int) < (↑(f.pieces.length):Int))=false -> ∀ (x93:Nat),(x93<=f.columns.length /\ ∀ (j:Nat),j < x93->List.all (col f j) (isPc f)=true)->decide ((x93:Int) < (↑(f.columns.length):Int))=true -> ∀ (x95:Nat),(x95<=(col f x93).length /\ ∀ (j:Nat),j < x95->isPc f ((col f x93).getD j 0)=true)->decide ((x95:Int) < (↑((col f x93).length):Int))=true->(!isPc f ((col f x93).getD x95 0))=false->(col f x93).length - (x95 + 1) < (col f x93).length - x95)
  (o46:fitsF f->(bif bif bif bif !within f.length 0 300 then true else !within f.slack 0 9 then true else decide (3 < (↑(f.strips.length):Int)) then true else decide (6 < (↑(f.pieces.length):Int)) then true else decide (3 < (↑(f.columns.length):Int)))=false -> ∀ (x39:Nat),(x39<=f.strips.length /\ ∀ (j:Nat),j < x39->okStrip (stp f j)=true)->decide ((x39:Int) < (↑(f.strips.length):Int))=false -> ∀ (x61:Nat),(x61<=f.pieces.length /\ ∀ (j:Nat),j < x61->okPiece (pc f j)=true/\cntL (allC f) (j:Int)=1)->decide ((x61:Int) < (↑(f.pieces.length):Int))=false -> ∀ (x93:Nat),(x93<=f.columns.length /\ ∀ (j:Nat),j < x93->List.all (col f j) (isPc f)=true)->decide ((x93:Int) < (↑(f.columns.length):Int))=true -> ∀ (x95:Nat),(x95<=(col f x93).length /\ ∀ (j:Nat),j < x95->isPc f ((col f x93).getD j 0)=true)->decide ((x95:Int) < (↑((col f x93).length):Int))=false->inI ((x93:Int) + 1))
  (o47:fitsF f->(bif bif bif bif !within f.length 0 300 then true else !within f.slack 0 9 then true else decide (3 < (↑(f.strips.length):Int)) then true else decide (6 < (↑(f.pieces.length):Int)) then true else decide (3 < (↑(f.columns.length):Int)))=false -> ∀ (x39:Nat),(x39<=f.strips.length /\ ∀ (j:Nat),j < x39->okStrip (stp f j)=true)->decide ((x39:Int) < (↑(f.strips.length):Int))=false -> ∀ (x61:Nat),(x61<=f.pieces.length /\ ∀ (j:Nat),j < x61->okPiece (pc f j)=true/\cntL (allC f) (j:Int)=1)->decide ((x61:Int) < (↑(f.pieces.length):Int))=false -> ∀ (x93:Nat),(x93<=f.columns.length /\ ∀ (j:Nat),j < x93->List.all (col f j) (isPc f)=true)->decide ((x93:Int) < (↑(f.columns.length):Int))=true -> ∀ (x95:Nat),(x95<=(col f x93).length /\ ∀ (j:Nat),j < x95->isPc f ((col f x93).getD j 0)=true)->decide ((x95:Int) < (↑((col f x93).length):Int))=false->(x93:Int) + 1=(↑(x93 + 1):Int))
  (o48:fitsF f->(bif bif bif bif !within f.length 0 300 then true else !within f.slack 0 9 then true else decide (3 < (↑(f.strips.length):Int)) then true else decide (6 < (↑(f.pieces.length):Int)) then true else decide (3 < (↑(f.columns.length):Int)))=false -> ∀ (x39:Nat),(x39<=f.strips.length /\ ∀ (j:Nat),j < x39->okStrip (stp f j)=true)->decide ((x39:Int) < (↑(f.strips.length):Int))=false -> ∀ (x61:Nat),(x61<=f.pieces.length /\ ∀ (j:Nat),j < x61->okPiece (pc f j)=true/\cntL (allC f) (j:Int)=1)->decide ((x61:Int) < (↑(f.pieces.length):Int))=false -> ∀ (x93:Nat),(x93<=f.columns.length /\ ∀ (j:Nat),j < x93->List.all (col f j) (isPc f)=true)->decide ((x93:Int) < (↑(f.columns.length):Int))=true -> ∀ (x95:Nat),(x95<=(col f x93).length /\ ∀ (j:Nat),j < x95->isPc f ((col f x93).getD j 0)=true)->decide ((x95:Int) < (↑((col f x93).length):Int))=false->x93 + 1<=f.columns.length /\ ∀ (j:Nat),j < x93 + 1->List.all (col f j) (isPc f)=true)
  (o49:fitsF f->(bif bif bif bif !within f.length 0 300 then true else !within f.slack 0 9 then true else decide (3 < (↑(f.strips.length):Int)) then true else decide (6 < (↑(f.pieces.length):Int)) then true else decide (3 < (↑(f.columns.length):Int)))=false -> ∀ (x39:Nat),(x39<=f.strips.length /\ ∀ (j:Nat),j < x39->okStrip (stp f j)=true)->decide ((x39:Int) < (↑(f.strips.length):Int))=false -> ∀ (x61:Nat),(x61<=f.pieces.length /\ ∀ (j:Nat),j < x61->okPiece (pc f j)=true/\cntL (allC f) (j:Int)=1)->decide ((x61:Int) < (↑(f.pieces.length):Int))=false -> ∀ (x93:Nat),(x93<=f.columns.length /\ ∀ (j:Nat),j < x93->List.all (col f j) (isPc f)=true)->decide ((x93:Int) < (↑(f.columns.length):Int))=true -> ∀ (x95:Nat),(x95<=(col f x93).length /\ ∀ (j:Nat),j < x95->isPc f ((col f x93).getD j 0)=true)->decide ((x95:Int) < (↑((col f x93).length):Int))=false->f.columns.length - (x93 + 1) < f.columns.length - x93)
  (o50:fitsF f->(bif bif bif bif !within f.length 0 300 then true else !within f.slack 0 9 then true else decide (3 < (↑(f.strips.length):Int)) then true else decide (6 < (↑(f.pieces.length):Int)) then true else decide (3 < (↑(f.columns.length):Int)))=false -> ∀ (x39:Nat),(x39<=f.strips.length /\ ∀ (j:Nat),j < x39->okStrip (stp f j)=true)->decide ((x39:Int) < (↑(f.strips.length):Int))=false -> ∀ (x61:Nat),(x61<=f.pieces.length /\ ∀ (j:Nat),j < x61->okPiece (pc f j)=true/\cntL (allC f) (j:Int)=1)->decide ((x61:Int) < (↑(f.pieces.length):Int))=false -> ∀ (x93:Nat),(x93<=f.columns.length /\ ∀ (j:Nat),j < x93->List.all (col f j) (isPc f)=true)->decide ((x93:Int) < (↑(f.columns.length):Int))=false->0=checkF f) :
  Triple Try.prog 35 (s35 f):=by
 refine triple_of Try.func35 rfl Try.call35 T0_ok _ rfl rfl rfl rfl (Nat.le_of_ble_eq_true (by kernel_rfl)) (fun _ _ _ _ h=>h) ?_
 intro hpre C hC _ hE
 obtain ⟨P,w0,E0,av,hA,ro,df⟩:=C
 obtain ⟨rfl,rfl,rfl⟩:=hC
 refine swp_seq ?_
 refine zR [1] [0] (Ak 2 tv) ?_
 refine swp_seq ?_
 refine swp_seq ?_
 refine zC ([(2,CallSpec.eq (s87 f.length 0 300) [true,true,true]),(7,CallSpec.eq (s87 f.slack 0 9) [true,true,true])]) [1,34] [0] (Ak 2 (An (An (An (zr (iv f.length)) (An (zr (iv 0)) (An (zr (iv 300)) tv))) (An (t87 f.length (0) (300)) (Ak 2 (fun (i0:Env)=>tv)))) (Ak 2 (An (fun (y1:(!!within f.length 0 300)=true)=>(An (Ak 1 tv) tv)) (An (fun (y2:(!!within f.length 0 300)=true)=>(An (An (fun (y3:(!!within f.length 0 300)=true)=>y2) tv) tv)) (An (fun (y4:(!!within f.length 0 300)=true)=>(An (Ak 1 (An (fun (y5:(!!within f.length 0 300)=true)=>y4) (Ak 2 tv))) (An (An (zr (iv f.slack)) (An (zr (iv 0)) (An (zr (iv 9)) tv))) (An (t87 f.slack (0) (9)) (Ak 2 (fun (i6:Env)=>tv)))))) (An (fun (y7:(!!within f.length 0 300)=true)=>(An (An (fun (y8:(!!within f.length 0 300)=true)=>y7) tv) tv)) (An (An (fun (y9:(!within f.length 0 300)=true)=>tv) (fun (y10:(!within f.length 0 300)=false)=>(o0 hpre y10))) (Ak 1 (An (fun (y11:(!bif !within f.length 0 300 then true else !within f.slack 0 9)=true)=>(An (Ak 1 tv) tv)) (An (fun (y12:(!bif !within f.length 0 300 then true else !within f.slack 0 9)=true)=>(An (An (fun (y13:(!bif !within f.length 0 300 then true else !within f.slack 0 9)=true)=>y12) tv) tv)) (An (fun (y14:(!bif !within f.length 0 300 then true else !within f.slack 0 9)=true)=>(An (An (fun (y15:(!bif !within f.length 0 300 then true else !within f.slack 0 9)=true)=>y14) tv) tv)) (An (fun (y16:(!bif !within f.length 0 300 then true else !within f.slack 0 9)=true)=>(An (An (fun (y17:(!bif !within f.length 0 300 then true else !within f.slack 0 9)=true)=>y16) (Ak 1 tv)) tv)) (An (An (fun (y18:(bif !within f.length 0 300 then true else !within f.slack 0 9)=true)=>tv) (fun (y19:(bif !within f.length 0 300 then true else !within f.slack 0 9)=false)=>(o1 hpre y19))) (Ak 1 (An (fun (y20:(!bif bif !within f.length 0 300 then true else !within f.slack 0 9 then true else decide (3 < (↑(f.strips.length):Int)))=true)=>(An (Ak 1 tv) tv)) (An (fun (y21:(!bif bif !within f.length 0 300 then true else !within f.slack 0 9 then true else decide (3 < (↑(f.strips.length):Int)))=true)=>(An (An (fun (y22:(!bif bif !within f.length 0 300 then true else !within f.slack 0 9 then true else decide (3 < (↑(f.strips.length):Int)))=true)=>y21) tv) tv)) (An (fun (y23:(!bif bif !within f.length 0 300 then true else !within f.slack 0 9 then true else decide (3 < (↑(f.strips.length):Int)))=true)=>(An (An (fun (y24:(!bif bif !within f.length 0 300 then true else !within f.slack 0 9 then true else decide (3 < (↑(f.strips.length):Int)))=true)=>y23) tv) tv)) (An (fun (y25:(!bif bif !within f.length 0 300 then true else !within f.slack 0 9 then true else decide (3 < (↑(f.strips.length):Int)))=true)=>(An (An (fun (y26:(!bif bif !within f.length 0 300 then true else !within f.slack 0 9 then true else decide (3 < (↑(f.strips.length):Int)))=true)=>y25) (Ak 1 tv)) tv)) (An (An (fun (y27:(bif bif !within f.length 0 300 then true else !within f.slack 0 9 then true else decide (3 < (↑(f.strips.length):Int)))=true)=>tv) (fun (y28:(bif bif !within f.length 0 300 then true else !within f.slack 0 9 then true else decide (3 < (↑(f.strips.length):Int)))=false)=>(o2 hpre y28))) (Ak 1 (An (fun (y29:(!bif bif bif !within f.length 0 300 then true else !within f.slack 0 9 then true else decide (3 < (↑(f.strips.length):Int)) then true else decide (6 < (↑(f.pieces.length):Int)))=true)=>(An (Ak 1 tv) tv)) (An (fun (y30:(!bif bif bif !within f.length 0 300 then true else !within f.slack 0 9 then true else decide (3 < (↑(f.strips.length):Int)) then true else decide (6 < (↑(f.pieces.length):Int)))=true)=>(An (An (fun (y31:(!bif bif bif !within f.length 0 300 then true else !within f.slack 0 9 then true else decide (3 < (↑(f.strips.length):Int)) then true else decide (6 < (↑(f.pieces.length):Int)))=true)=>y30) tv) tv)) (An (fun (y32:(!bif bif bif !within f.length 0 300 then true else !within f.slack 0 9 then true else decide (3 < (↑(f.strips.length):Int)) then true else decide (6 < (↑(f.pieces.length):Int)))=true)=>(An (An (fun (y33:(!bif bif bif !within f.length 0 300 then true else !within f.slack 0 9 then true else decide (3 < (↑(f.strips.length):Int)) then true else decide (6 < (↑(f.pieces.length):Int)))=true)=>y32) tv) tv)) (An (fun (y34:(!bif bif bif !within f.length 0 300 then true else !within f.slack 0 9 then true else decide (3 < (↑(f.strips.length):Int)) then true else decide (6 < (↑(f.pieces.length):Int)))=true)=>(An (An (fun (y35:(!bif bif bif !within f.length 0 300 then true else !within f.slack 0 9 then true else decide (3 < (↑(f.strips.length):Int)) then true else decide (6 < (↑(f.pieces.length):Int)))=true)=>y34) (Ak 1 tv)) tv)) (An (An (fun (y36:(bif bif bif !within f.length 0 300 then true else !within f.slack 0 9 then true else decide (3 < (↑(f.strips.length):Int)) then true else decide (6 < (↑(f.pieces.length):Int)))=true)=>tv) (fun (y37:(bif bif bif !within f.length 0 300 then true else !within f.slack 0 9 then true else decide (3 < (↑(f.strips.length):Int)) then true else decide (6 < (↑(f.pieces.length):Int)))=false)=>(o3 hpre y37))) tv)))))))))))))))))))))))))) ?_
 refine zI (bif bif bif bif !within f.length 0 300 then true else !within f.slack 0 9 then true else decide (3 < (↑(f.strips.length):Int)) then true else decide (6 < (↑(f.pieces.length):Int)) then true else decide (3 < (↑(f.columns.length):Int))) (fun y38 => ?_) (fun y38 => ?_)
 ·refine swp_seq ?_
  refine zR [2] [] (Ak 1 tv) ?_
  refine swp_ret ?_
  exact zT [] (An (Ak 1 tv) (An (An (ci (o4 hpre y38)) (zr nilN)) (An (zr true) (An (zr true) (zr true)))))
 ·refine swp_skip ?_
  refine swp_seq ?_
  refine swp_seq ?_
  refine zR [1,3] [0] (Ak 1 tv) ?_
  refine swp_block ?_
  refine zL (Hint.ann (h35a f) [(1,AV.ptr 0 [])] [(0,OB.cells 26 (cFrm f))] 10248) (zE hE [] [(0,.same 0)] [] [0] (An (An (An (zr (some (Src.same 0))) (zr nilP)) (An (An (ci (o5 hpre y38)) (zr nilN)) tv)) (An (An (An (zr (OB.cells 26 (cFrm f))) (zr true)) tv) (An (zr true) (zr true))))) (o6 hpre y38) (fun (x39:Nat) hx39 => ?_)
  refine swp_seq ?_
  refine swp_seq ?_
  refine zR [1,3,39] [0] (Ak 5 tv) ?_
  refine zI (decide ((x39:Int) < (↑(f.strips.length):Int))) (fun y40 => ?_) (fun y40 => ?_)
  ·refine swp_skip ?_
   refine swp_seq ?_
   refine swp_block ?_
   refine swp_seq ?_
   refine zC ([(6,CallSpec.eq (s87 (stp f x39).thick 1 30) [true,true,true]),(15,CallSpec.eq (s87 (stp f x39).many 0 4) [true,true,true])]) [1,3,59] [0] (Ak 3 (An (An (o7 hpre y38 x39 hx39 y40) (o8 hpre y38 x39 hx39 y40)) (Ak 2 (An (An (An (zr (iv (stp f x39).thick)) (An (zr (iv 1)) (An (zr (iv 30)) tv))) (An (t87 (stp f x39).thick (1) (30)) (Ak 2 (fun (i41:Env)=>tv)))) (Ak 2 (An (fun (y42:(!!within (stp f x39).thick 1 30)=true)=>(An (Ak 1 tv) tv)) (An (fun (y43:(!!within (stp f x39).thick 1 30)=true)=>(An (An (fun (y44:(!!within (stp f x39).thick 1 30)=true)=>y43) tv) tv)) (An (fun (y45:(!!within (stp f x39).thick 1 30)=true)=>(An (Ak 1 tv) tv)) (An (fun (y46:(!!within (stp f x39).thick 1 30)=true)=>(An (An (fun (y47:(!!within (stp f x39).thick 1 30)=true)=>y46) (An (fun (y48:(!!within (stp f x39).thick 1 30)=true)=>y46) tv)) (An (o9 hpre y38 x39 hx39 y40 y46) (o10 hpre y38 x39 hx39 y40 y46)))) (An (fun (y49:(!!within (stp f x39).thick 1 30)=true)=>(An (An (fun (y50:(!!within (stp f x39).thick 1 30)=true)=>y49) tv) tv)) (An (fun (y51:(!!within (stp f x39).thick 1 30)=true)=>(An (An (fun (y52:(!!within (stp f x39).thick 1 30)=true)=>y51) tv) tv)) (An (fun (y53:(!!within (stp f x39).thick 1 30)=true)=>(An (Ak 1 (An (fun (y54:(!!within (stp f x39).thick 1 30)=true)=>y53) (Ak 2 tv))) (An (An (zr (iv (stp f x39).many)) (An (zr (iv 0)) (An (zr (iv 4)) tv))) (An (t87 (stp f x39).many (0) (4)) (Ak 2 (fun (i55:Env)=>tv)))))) (An (fun (y56:(!!within (stp f x39).thick 1 30)=true)=>(An (An (fun (y57:(!!within (stp f x39).thick 1 30)=true)=>y56) tv) tv)) (An (An (fun (y58:(!within (stp f x39).thick 1 30)=true)=>tv) (fun (y59:(!within (stp f x39).thick 1 30)=false)=>(o11 hpre y38 x39 hx39 y40 y59))) tv)))))))))))))) ?_
   refine zI (bif !within (stp f x39).thick 1 30 then true else !within (stp f x39).many 0 4) (fun y60 => ?_) (fun y60 => ?_)
   ·refine swp_seq ?_
    refine zR [2] [] (Ak 1 tv) ?_
    refine swp_ret ?_
    exact zT [] (An (Ak 1 tv) (An (An (ci (o12 hpre y38 x39 hx39 y40 y60)) (zr nilN)) (An (zr true) (An (zr true) (zr true)))))
   ·refine swp_skip ?_
    refine zR [1,3] [0] (Ak 1 (An (o13 hpre y38 x39 hx39 y40 y60) (Ak 1 tv))) ?_
    exact zn (zE hE [] [(0,.same 0)] [] [0] (An (An (An (zr (some (Src.same 0))) (zr nilP)) (An (An (ci (o14 hpre y38 x39 hx39 y40 y60)) (zr nilN)) tv)) (An (An (An (zr (OB.cells 26 (cFrm f))) (zr true)) tv) (An (zr true) (zr true))))) (o15 hpre y38 x39 hx39 y40 y60) (o16 hpre y38 x39 hx39 y40 y60)
  ·refine swp_exit ?_
   refine swp_seq ?_
   refine swp_seq ?_
   refine zR [1,4] [0] (Ak 1 tv) ?_
   refine swp_block ?_
   refine zL (Hint.ann (h35b f) [(1,AV.ptr 0 [])] [(0,OB.cells 26 (cFrm f))] 20296) (zE hE [] [(0,.same 0)] [] [0] (An (An (An (zr (some (Src.same 0))) (zr nilP)) (An (An (ci (o17 hpre y38 x39 hx39 y40)) (zr nilN)) tv)) (An (An (An (zr (OB.cells 26 (cFrm f))) (zr true)) tv) (An (zr true) (zr true))))) (o18 hpre y38 x39 hx39 y40) (fun (x61:Nat) hx61 => ?_)
   refine swp_seq ?_
   refine swp_seq ?_
   refine zR [1,4,64] [0] (Ak 5 tv) ?_
   refine zI (decide ((x61:Int) < (↑(f.pieces.length):Int))) (fun y62 => ?_) (fun y62 => ?_)
   ·refine swp_skip ?_
    refine swp_seq ?_
    refine swp_block ?_
    refine swp_seq ?_
    refine zC ([(6,CallSpec.eq (c35 f x61) [false,true]),(15,CallSpec.eq (s87 (pc f x61).pence 0 99) [true,true,true]),(21,CallSpec.eq (s97 f (x61:Int)) [true,true])]) [1,4,90] [0] (Ak 3 (An (An (o19 hpre y38 x39 hx39 y40 x61 hx61 y62) (o20 hpre y38 x39 hx39 y40 x61 hx61 y62)) (Ak 2 (An (An (An (An (zr (iv (pc f x61).lo)) (An (zr (iv (pc f x61).hi)) tv)) (An (zr (iv 99)) tv)) (An (t96 (Span.mk (pc f x61).lo (pc f x61).hi) (99)) (Ak 2 (fun (i63:Env)=>tv)))) (Ak 2 (An (fun (y64:(!!isSpan (Span.mk (pc f x61).lo (pc f x61).hi) 99)=true)=>(An (Ak 1 tv) tv)) (An (fun (y65:(!!isSpan (Span.mk (pc f x61).lo (pc f x61).hi) 99)=true)=>(An (An (fun (y66:(!!isSpan (Span.mk (pc f x61).lo (pc f x61).hi) 99)=true)=>y65) tv) tv)) (An (fun (y67:(!!isSpan (Span.mk (pc f x61).lo (pc f x61).hi) 99)=true)=>(An (Ak 1 tv) tv)) (An (fun (y68:(!!isSpan (Span.mk (pc f x61).lo (pc f x61).hi) 99)=true)=>(An (An (fun (y69:(!!isSpan (Span.mk (pc f x61).lo (pc f x61).hi) 99)=true)=>y68) (An (fun (y70:(!!isSpan (Span.mk (pc f x61).lo (pc f x61).hi) 99)=true)=>y68) tv)) (An (o21 hpre y38 x39 hx39 y40 x61 hx61 y62 y68) (o22 hpre y38 x39 hx39 y40 x61 hx61 y62 y68)))) (An (fun (y71:(!!isSpan (Span.mk (pc f x61).lo (pc f x61).hi) 99)=true)=>(An (An (fun (y72:(!!isSpan (Span.mk (pc f x61).lo (pc f x61).hi) 99)=true)=>y71) tv) tv)) (An (fun (y73:(!!isSpan (Span.mk (pc f x61).lo (pc f x61).hi) 99)=true)=>(An (An (fun (y74:(!!isSpan (Span.mk (pc f x61).lo (pc f x61).hi) 99)=true)=>y73) tv) tv)) (An (fun (y75:(!!isSpan (Span.mk (pc f x61).lo (pc f x61).hi) 99)=true)=>(An (Ak 1 (An (fun (y76:(!!isSpan (Span.mk (pc f x61).lo (pc f x61).hi) 99)=true)=>y75) (Ak 2 tv))) (An (An (zr (iv (pc f x61).pence)) (An (zr (iv 0)) (An (zr (iv 99)) tv))) (An (t87 (pc f x61).pence (0) (99)) (Ak 2 (fun (i77:Env)=>tv)))))) (An (fun (y78:(!!isSpan (Span.mk (pc f x61).lo (pc f x61).hi) 99)=true)=>(An (An (fun (y79:(!!isSpan (Span.mk (pc f x61).lo (pc f x61).hi) 99)=true)=>y78) tv) tv)) (An (An (fun (y80:(!isSpan (Span.mk (pc f x61).lo (pc f x61).hi) 99)=true)=>tv) (fun (y81:(!isSpan (Span.mk (pc f x61).lo (pc f x61).hi) 99)=false)=>(o23 hpre y38 x39 hx39 y40 x61 hx61 y62 y81))) (Ak 1 (An (fun (y82:(!bif !isSpan (Span.mk (pc f x61).lo (pc f x61).hi) 99 then true else !within (pc f x61).pence 0 99)=true)=>(An (Ak 1 tv) tv)) (An (fun (y83:(!bif !isSpan (Span.mk (pc f x61).lo (pc f x61).hi) 99 then true else !within (pc f x61).pence 0 99)=true)=>(An (Ak 1 tv) tv)) (An (fun (y84:(!bif !isSpan (Span.mk (pc f x61).lo (pc f x61).hi) 99 then true else !within (pc f x61).pence 0 99)=true)=>(An (Ak 1 (An (fun (y85:(!bif !isSpan (Span.mk (pc f x61).lo (pc f x61).hi) 99 then true else !within (pc f x61).pence 0 99)=true)=>y84) (An (fun (y86:(!bif !isSpan (Span.mk (pc f x61).lo (pc f x61).hi) 99 then true else !within (pc f x61).pence 0 99)=true)=>y84) tv))) (An (An (zr (AV.agg (cFrm f))) (An (zr (iv (x61:Int))) tv)) (An (t97 (f) ((x61:Int))) (An (An hpre (o24 hpre y38 x39 hx39 y40 x61 hx61 y62 y84)) (Ak 1 (fun (i87:Env)=>tv))))))) (An (fun (y88:(!bif !isSpan (Span.mk (pc f x61).lo (pc f x61).hi) 99 then true else !within (pc f x61).pence 0 99)=true)=>(An (An (fun (y89:(!bif !isSpan (Span.mk (pc f x61).lo (pc f x61).hi) 99 then true else !within (pc f x61).pence 0 99)=true)=>y88) (Ak 1 tv)) tv)) (An (An (fun (y90:(bif !isSpan (Span.mk (pc f x61).lo (pc f x61).hi) 99 then true else !within (pc f x61).pence 0 99)=true)=>tv) (fun (y91:(bif !isSpan (Span.mk (pc f x61).lo (pc f x61).hi) 99 then true else !within (pc f x61).pence 0 99)=false)=>(o25 hpre y38 x39 hx39 y40 x61 hx61 y62 y91))) tv)))))))))))))))))))) ?_
    refine zI (bif bif !isSpan (Span.mk (pc f x61).lo (pc f x61).hi) 99 then true else !within (pc f x61).pence 0 99 then true else !decide (cntL (allC f) (x61:Int)=1)) (fun y92 => ?_) (fun y92 => ?_)
    ·refine swp_seq ?_
     refine zR [2] [] (Ak 1 tv) ?_
     refine swp_ret ?_
     exact zT [] (An (Ak 1 tv) (An (An (ci (o26 hpre y38 x39 hx39 y40 x61 hx61 y62 y92)) (zr nilN)) (An (zr true) (An (zr true) (zr true)))))
    ·refine swp_skip ?_
     refine zR [1,4] [0] (Ak 1 (An (o27 hpre y38 x39 hx39 y40 x61 hx61 y62 y92) (Ak 1 tv))) ?_
     exact zn (zE hE [] [(0,.same 0)] [] [0] (An (An (An (zr (some (Src.same 0))) (zr nilP)) (An (An (ci (o28 hpre y38 x39 hx39 y40 x61 hx61 y62 y92)) (zr nilN)) tv)) (An (An (An (zr (OB.cells 26 (cFrm f))) (zr true)) tv) (An (zr true) (zr true))))) (o29 hpre y38 x39 hx39 y40 x61 hx61 y62 y92) (o30 hpre y38 x39 hx39 y40 x61 hx61 y62 y92)
   ·refine swp_exit ?_
    refine swp_seq ?_
    refine swp_seq ?_
    refine zR [1,5] [0] (Ak 1 tv) ?_
    refine swp_block ?_
    refine zL (Hint.ann (h35c f) [(1,AV.ptr 0 [])] [(0,OB.cells 26 (cFrm f))] 30344) (zE hE [] [(0,.same 0)] [] [0] (An (An (An (zr (some (Src.same 0))) (zr nilP)) (An (An (ci (o31 hpre y38 x39 hx39 y40 x61 hx61 y62)) (zr nilN)) tv)) (An (An (An (zr (OB.cells 26 (cFrm f))) (zr true)) tv) (An (zr true) (zr true))))) (o32 hpre y38 x39 hx39 y40 x61 hx61 y62) (fun (x93:Nat) hx93 => ?_)
    refine swp_seq ?_
    refine swp_seq ?_
    refine zR [1,5,95] [0] (Ak 5 tv) ?_
    refine zI (decide ((x93:Int) < (↑(f.columns.length):Int))) (fun y94 => ?_) (fun y94 => ?_)
    ·refine swp_skip ?_
     refine swp_seq ?_
     refine swp_block ?_
     refine swp_seq ?_
     refine zR [1,5,6] [0] (Ak 1 tv) ?_
     refine swp_block ?_
     refine zL (Hint.ann (h35d f x93) [(1,AV.ptr 0 []),(5,iv (x93:Int))] [(0,OB.cells 26 (cFrm f))] 40392) (zE hE [] [(0,.same 0)] [5] [0] (An (An (An (zr (some (Src.same 0))) (zr nilP)) (An (An (zr (iv (x93:Int))) (zr true)) (An (An (ci (o33 hpre y38 x39 hx39 y40 x61 hx61 y62 x93 hx93 y94)) (zr nilN)) tv))) (An (An (An (zr (OB.cells 26 (cFrm f))) (zr true)) tv) (An (zr true) (zr true))))) (o34 hpre y38 x39 hx39 y40 x61 hx61 y62 x93 hx93 y94) (fun (x95:Nat) hx95 => ?_)
     refine swp_seq ?_
     refine swp_seq ?_
     refine zR [1,5,6,105] [0] (Ak 4 (An (An (o35 hpre y38 x39 hx39 y40 x61 hx61 y62 x93 hx93 y94 x95 hx95) (o36 hpre y38 x39 hx39 y40 x61 hx61 y62 x93 hx93 y94 x95 hx95)) (Ak 3 tv))) ?_
     refine zI (decide ((x95:Int) < (↑((col f x93).length):Int))) (fun y96 => ?_) (fun y96 => ?_)
     ·refine swp_skip ?_
      refine swp_seq ?_
      refine swp_block ?_
      refine swp_seq ?_
      refine zC ([(9,CallSpec.eq (s25 f ((col f x93).getD x95 0)) [true,true])]) [1,5,6,118] [0] (Ak 4 (An (An (o37 hpre y38 x39 hx39 y40 x61 hx61 y62 x93 hx93 y94 x95 hx95 y96) (o38 hpre y38 x39 hx39 y40 x61 hx61 y62 x93 hx93 y94 x95 hx95 y96)) (Ak 2 (An (An (o39 hpre y38 x39 hx39 y40 x61 hx61 y62 x93 hx93 y94 x95 hx95 y96) (o40 hpre y38 x39 hx39 y40 x61 hx61 y62 x93 hx93 y94 x95 hx95 y96)) (Ak 1 (An (An (An (zr (AV.agg (cFrm f))) (An (zr (iv ((col f x93).getD x95 0))) tv)) (An (t25 (f) ((col f x93).getD x95 0)) (An hpre (Ak 1 (fun (i97:Env)=>tv))))) (Ak 1 tv))))))) ?_
      refine zI (!isPc f ((col f x93).getD x95 0)) (fun y98 => ?_) (fun y98 => ?_)
      ·refine swp_seq ?_
       refine zR [2] [] (Ak 1 tv) ?_
       refine swp_ret ?_
       exact zT [] (An (Ak 1 tv) (An (An (ci (o41 hpre y38 x39 hx39 y40 x61 hx61 y62 x93 hx93 y94 x95 hx95 y96 y98)) (zr nilN)) (An (zr true) (An (zr true) (zr true)))))
      ·refine swp_skip ?_
       refine zR [1,5,6] [0] (Ak 1 (An (o42 hpre y38 x39 hx39 y40 x61 hx61 y62 x93 hx93 y94 x95 hx95 y96 y98) (Ak 1 tv))) ?_
       exact zn (zE hE [] [(0,.same 0)] [5] [0] (An (An (An (zr (some (Src.same 0))) (zr nilP)) (An (An (zr (iv (x93:Int))) (zr true)) (An (An (ci (o43 hpre y38 x39 hx39 y40 x61 hx61 y62 x93 hx93 y94 x95 hx95 y96 y98)) (zr nilN)) tv))) (An (An (An (zr (OB.cells 26 (cFrm f))) (zr true)) tv) (An (zr true) (zr true))))) (o44 hpre y38 x39 hx39 y40 x61 hx61 y62 x93 hx93 y94 x95 hx95 y96 y98) (o45 hpre y38 x39 hx39 y40 x61 hx61 y62 x93 hx93 y94 x95 hx95 y96 y98)
     ·refine swp_exit ?_
      refine zR [1,5] [0] (Ak 1 (An (o46 hpre y38 x39 hx39 y40 x61 hx61 y62 x93 hx93 y94 x95 hx95 y96) (Ak 1 tv))) ?_
      exact zn (zE hE [] [(0,.same 0)] [] [0] (An (An (An (zr (some (Src.same 0))) (zr nilP)) (An (An (ci (o47 hpre y38 x39 hx39 y40 x61 hx61 y62 x93 hx93 y94 x95 hx95 y96)) (zr nilN)) tv)) (An (An (An (zr (OB.cells 26 (cFrm f))) (zr true)) tv) (An (zr true) (zr true))))) (o48 hpre y38 x39 hx39 y40 x61 hx61 y62 x93 hx93 y94 x95 hx95 y96) (o49 hpre y38 x39 hx39 y40 x61 hx61 y62 x93 hx93 y94 x95 hx95 y96)
    ·refine swp_exit ?_
     refine swp_seq ?_
     refine zR [2] [] (Ak 1 tv) ?_
     refine swp_ret ?_
     exact zT [] (An (Ak 1 tv) (An (An (ci (o50 hpre y38 x39 hx39 y40 x61 hx61 y62 x93 hx93 y94)) (zr nilN)) (An (zr true) (An (zr true) (zr true)))))
theorem t35 (f:Frm):Triple Try.prog 35 (s35 f):=by
 apply w35
 case o4 =>
  intro hp h
  refine (check_bad (okFrm_head ?_)).symm
  cases e:okHeadF f with
  | false=>rfl
  | true =>
   simp only [okHeadF,Bool.and_eq_true,decide_eq_true_eq] at e
   obtain ⟨⟨⟨⟨e1,e2⟩,e3⟩,e4⟩,e5⟩:=e
   rw [e1,e2] at h
   simp only [Bool.not_true,Bool.cond_true_left,Bool.false_or,Bool.or_eq_true,decide_eq_true_eq] at h
   omega
 case o12 =>
  intro hp h x hx h2 h3
  simp only [decide_eq_true_eq] at h2
  refine (check_bad (okFrm_strip (x:=x) (by omega) ?_)).symm
  rw [nbor2,Bool.not_eq_true'] at h3
  exact h3
 case o15 =>
  intro hp h x hx h2 h3
  simp only [decide_eq_true_eq] at h2
  rw [nbor2] at h3
  exact ⟨by omega,lt_succ_cases hx.2 (by simpa [okStrip] using h3)⟩
 case o26 =>
  intro hp h x hx h2 y hy h3 h4
  simp only [decide_eq_true_eq] at h3
  rw [nbor3] at h4
  by_cases h5:cntL (allC f) (y:Int)=1
  ·refine (check_bad (okFrm_piece (x:=y) (by omega) ?_)).symm
   rw [decide_eq_true h5,Bool.and_true,Bool.not_eq_true'] at h4
   exact h4
  ·exact (check_bad (okFrm_cnt (x:=y) (by omega) h5)).symm
 case o29 =>
  intro hp h x hx h2 y hy h3 h4
  simp only [decide_eq_true_eq] at h3
  rw [nbor3] at h4
  simp only [Bool.not_eq_false',Bool.and_eq_true,decide_eq_true_eq] at h4
  refine ⟨by omega,lt_succ_cases hy.2 ⟨?_,h4.2⟩⟩
  have h5:=h4.1
  simp only [isSpan,Bool.and_eq_true] at h5
  simp [okPiece,h5.1.1,h5.1.2,h5.2]
 case o41 =>
  intro hp h x hx h2 y hy h3 c hc h4 k hk h5 h6
  simp only [decide_eq_true_eq] at h4 h5
  simp only [Bool.not_eq_true'] at h6
  exact (check_bad (okFrm_in (c:=c) (by omega) (not_all _ 0 _ (by omega) h6))).symm
 case o42=>intro hp h x hx h2 y hy h3 c hc h4 k hk h5 h6; have:=hp.2.2.2 c; simp only [big] at *; exact ⟨by omega,by omega⟩
 case o44 =>
  intro hp h x hx h2 y hy h3 c hc h4 k hk h5 h6
  simp only [decide_eq_true_eq] at h5
  simp only [Bool.not_eq_false'] at h6
  exact ⟨by omega,lt_succ_cases hk.2 h6⟩
 case o48 =>
  intro hp h x hx h2 y hy h3 c hc h4 k hk h5
  simp only [decide_eq_true_eq] at h4
  simp only [decide_eq_false_iff_not] at h5
  exact ⟨by omega,lt_succ_cases hc.2 (all_idx _ 0 _ (fun j hj=>hk.2 j (by omega)))⟩
 case o50 =>
  intro hp h x hx h2 y hy h3 c hc h4
  simp only [decide_eq_false_iff_not] at h2 h3 h4
  refine (check_good (okFrm_of ?_ (fun j hj=>hx.2 j (by omega)) (fun j hj=>hy.2 j (by omega)) (fun j hj=>hc.2 j (by omega)))).symm
  simp only [Bool.cond_true_left,Bool.or_eq_false_iff,Bool.not_eq_false',decide_eq_false_iff_not] at h
  simp only [okHeadF,Bool.and_eq_true,decide_eq_true_eq]
  exact ⟨⟨⟨⟨h.1.1.1.1,h.1.1.1.2⟩,by omega⟩,by omega⟩,by omega⟩
 all_goals (try ((repeat intro _) <;> (try simp only [Bool.cond_true_left,Bool.cond_false_right,Bool.not_not,Bool.not_eq_true',Bool.not_eq_false',Bool.or_eq_true,Bool.or_eq_false_iff,Bool.and_eq_true,decide_eq_true_eq,decide_eq_false_iff_not,inI,big,fitsF,smallF,goodL] at *) <;> first | (exact rfl) | omega | (exact ⟨Nat.zero_le _,fun j hj=>absurd hj (Nat.not_lt_zero j)⟩) | (simp_all; done) | (simp_all; omega)))
theorem w83 (f:Frm) (is:Bool)
  (o0:smallF f->(!decide (checkF f=0))=true->0=(openFr f is).length)
  (o1:smallF f->(!decide (checkF f=0))=true->0=(openFr f is).slack)
  (o2:smallF f->(!decide (checkF f=0))=true->(openFr f is).strips.length=0)
  (o3:smallF f->(!decide (checkF f=0))=true->(openFr f is).pieces.length=0)
  (o4:smallF f->(!decide (checkF f=0))=true->(openFr f is).columns.length=0)
  (o5:smallF f->(!decide (checkF f=0))=true->checkF f=openF f is)
  (o6:smallF f->(!decide (checkF f=0))=false->(!is)=true->0=(openFr f is).length)
  (o7:smallF f->(!decide (checkF f=0))=false->(!is)=true->0=(openFr f is).slack)
  (o8:smallF f->(!decide (checkF f=0))=false->(!is)=true->(openFr f is).strips.length=0)
  (o9:smallF f->(!decide (checkF f=0))=false->(!is)=true->(openFr f is).pieces.length=0)
  (o10:smallF f->(!decide (checkF f=0))=false->(!is)=true->(openFr f is).columns.length=0)
  (o11:smallF f->(!decide (checkF f=0))=false->(!is)=true->1=openF f is)
  (o12:smallF f->(!decide (checkF f=0))=false->(!is)=false->f.length=(openFr f is).length)
  (o13:smallF f->(!decide (checkF f=0))=false->(!is)=false->f.slack=(openFr f is).slack)
  (o14:smallF f->(!decide (checkF f=0))=false->(!is)=false->f.strips.length=(openFr f is).strips.length)
  (o15:smallF f->(!decide (checkF f=0))=false->(!is)=false -> ∀ (i3:Nat),i3 < (openFr f is).strips.length->cStrip (stp f i3)=cStrip (stp (openFr f is) i3))
  (o16:smallF f->(!decide (checkF f=0))=false->(!is)=false->f.pieces.length=(openFr f is).pieces.length)
  (o17:smallF f->(!decide (checkF f=0))=false->(!is)=false -> ∀ (i5:Nat),i5 < (openFr f is).pieces.length->cPiece (pc f i5)=cPiece (pc (openFr f is) i5))
  (o18:smallF f->(!decide (checkF f=0))=false->(!is)=false->f.columns.length=(openFr f is).columns.length)
  (o19:smallF f->(!decide (checkF f=0))=false->(!is)=false -> ∀ (i7:Nat),i7 < (openFr f is).columns.length -> [aInts (col f i7)] = [aInts (col (openFr f is) i7)])
  (o20:smallF f->(!decide (checkF f=0))=false->(!is)=false->0=openF f is) :
  Triple Try.prog 83 (s83 f is):=by
 refine triple_of Try.func83 rfl Try.call83 T0_ok _ rfl rfl rfl rfl (Nat.le_of_ble_eq_true (by kernel_rfl)) (fun _ _ _ _ h=>h) ?_
 intro hpre C hC _ hE
 obtain ⟨P,w0,E0,av,hA,ro,df⟩:=C
 obtain ⟨rfl,rfl,rfl⟩:=hC
 refine swp_seq ?_
 refine zR [1,2,4] [0,8] (Ak 3 tv) ?_
 refine swp_seq ?_
 refine swp_seq ?_
 refine zC ([(1,CallSpec.eq (s34 f) [true])]) [1,2,4,6] [0,8] (Ak 1 (An (An (An (zr (AV.agg (cFrm f))) tv) (An (t34 (f)) (An hpre (Ak 1 (fun (i0:Env)=>tv))))) (Ak 1 tv))) ?_
 refine swp_seq ?_
 refine zR [1,2,4,6,10] [0,8] (Ak 2 tv) ?_
 refine zI (!decide (checkF f=0)) (fun y1 => ?_) (fun y1 => ?_)
 ·refine swp_seq ?_
  refine zR [4,5] [8] (Ak 4 tv) ?_
  refine swp_ret ?_
  exact zT [] (An (Ak 2 tv) (An (An (An (An (ci (o0 hpre y1)) (zr nilN)) (An (An (ci (o1 hpre y1)) (zr nilN)) (An (o2 hpre y1) (An (o3 hpre y1) (An (o4 hpre y1) tv))))) (An (An (ci (o5 hpre y1)) (zr nilN)) tv)) (An (zr true) (An (zr true) (zr true)))))
 ·refine swp_skip ?_
  refine swp_seq ?_
  refine swp_seq ?_
  refine zR [2,4,14] [0,8] (Ak 2 tv) ?_
  refine zI (!is) (fun y2 => ?_) (fun y2 => ?_)
  ·refine swp_seq ?_
   refine zR [4,5] [8] (Ak 3 tv) ?_
   refine swp_ret ?_
   exact zT [] (An (Ak 2 tv) (An (An (An (An (ci (o6 hpre y1 y2)) (zr nilN)) (An (An (ci (o7 hpre y1 y2)) (zr nilN)) (An (o8 hpre y1 y2) (An (o9 hpre y1 y2) (An (o10 hpre y1 y2) tv))))) (An (An (ci (o11 hpre y1 y2)) (zr nilN)) tv)) (An (zr true) (An (zr true) (zr true)))))
  ·refine swp_skip ?_
   refine swp_seq ?_
   refine zR [4,5] [8] (Ak 4 tv) ?_
   refine swp_ret ?_
   exact zT [] (An (Ak 2 tv) (An (An (An (An (ci (o12 hpre y1 y2)) (zr nilN)) (An (An (ci (o13 hpre y1 y2)) (zr nilN)) (An (An (zr 2) (An (o14 hpre y1 y2) (fun (i3:Nat)=>(fun (y4:i3 < (openFr f is).strips.length)=>(o15 hpre y1 y2 i3 y4))))) (An (An (zr 3) (An (o16 hpre y1 y2) (fun (i5:Nat)=>(fun (y6:i5 < (openFr f is).pieces.length)=>(o17 hpre y1 y2 i5 y6))))) (An (An (zr 1) (An (o18 hpre y1 y2) (fun (i7:Nat)=>(fun (y8:i7 < (openFr f is).columns.length)=>(o19 hpre y1 y2 i7 y8))))) tv))))) (An (An (ci (o20 hpre y1 y2)) (zr nilN)) tv)) (An (zr true) (An (zr true) (zr true)))))
theorem t83 (f:Frm) (is:Bool):Triple Try.prog 83 (s83 f is):=by
 apply w83
 all_goals (intro hp h; simp only [Bool.not_eq_true',Bool.not_eq_false',decide_eq_false_iff_not,decide_eq_true_eq] at h)
 all_goals (have h0 := @check_zero f; cases e:okFrm f <;> simp only [e,check_bad,check_good,Bool.false_eq_true,iff_false,iff_true] at h h0)
 all_goals (first | (exact absurd h0 h) | (exact absurd h h0) | skip)
 all_goals (try (cases is))
 all_goals (simp [openFr,openF,e,nilF,check_bad,check_good])
 all_goals (try ((repeat intro _) <;> (try simp only [Bool.cond_true_left,Bool.cond_false_right,Bool.not_not,Bool.not_eq_true',Bool.not_eq_false',Bool.or_eq_true,Bool.or_eq_false_iff,Bool.and_eq_true,decide_eq_true_eq,decide_eq_false_iff_not,inI,big,fitsF,smallF,goodL] at *) <;> first | (exact rfl) | omega | (exact ⟨Nat.zero_le _,fun j hj=>absurd hj (Nat.not_lt_zero j)⟩) | (simp_all; done) | (simp_all; omega)))
theorem w101 (f:Frm) (c:Nat) (n:Int)
  (o0:Sound f/\c < f.columns.length /\ -1000<=n/\n<=1000->0<=(c:Int))
  (o1:Sound f/\c < f.columns.length /\ -1000<=n/\n<=1000->(c:Int) < (↑(f.columns.length):Int))
  (o2:Sound f/\c < f.columns.length /\ -1000<=n/\n<=1000->goodL f (col f c))
  (o3:Sound f/\c < f.columns.length /\ -1000<=n/\n<=1000->inI ((highP f (col f c)).lo + n))
  (o4:Sound f/\c < f.columns.length /\ -1000<=n/\n<=1000->lockedAt f ((highP f (col f c)).lo + n)=true->inI ((highP f (col f c)).hi + n))
  (o5:Sound f/\c < f.columns.length /\ -1000<=n/\n<=1000->(bif lockedAt f ((highP f (col f c)).lo + n) then lockedAt f ((highP f (col f c)).hi + n) else false)=sureP f c n) :
  Triple Try.prog 101 (s101 f c n):=by
 refine triple_of Try.func101 rfl Try.call101 T0_ok _ rfl rfl rfl rfl (Nat.le_of_ble_eq_true (by kernel_rfl)) (fun _ _ _ _ h=>h) ?_
 intro hpre C hC _ hE
 obtain ⟨P,w0,E0,av,hA,ro,df⟩:=C
 obtain ⟨rfl,rfl,rfl⟩:=hC
 refine swp_seq ?_
 refine zR [1,2,3] [0] (Ak 2 tv) ?_
 refine swp_seq ?_
 refine zC ([(6,CallSpec.eq (s92 f (col f c)) [true,true])]) [2,3,7] [0,72] (Ak 4 (An (An (o0 hpre) (o1 hpre)) (Ak 1 (An (An (An (zr (AV.agg (cFrm f))) (An (zr (aInts (col f c))) tv)) (An (t92 (f) (col f c)) (An (An hpre.1 (o2 hpre)) (Ak 1 (fun (i0:Env)=>tv))))) (Ak 2 tv))))) ?_
 refine swp_seq ?_
 refine zC ([(5,CallSpec.eq (s74 f ((highP f (col f c)).lo + n)) [true,true]),(12,CallSpec.eq (s74 f ((highP f (col f c)).hi + n)) [true,true])]) [6] [] (Ak 4 (An (o3 hpre) (An (An (An (zr (AV.agg (cFrm f))) (An (zr (iv ((highP f (col f c)).lo + n))) tv)) (An (t74 (f) ((highP f (col f c)).lo + n)) (An hpre.1 (Ak 1 (fun (i1:Env)=>tv))))) (Ak 1 (An (fun (y2:lockedAt f ((highP f (col f c)).lo + n)=true)=>(An (Ak 1 tv) tv)) (An (fun (y3:lockedAt f ((highP f (col f c)).lo + n)=true)=>(An (Ak 1 tv) tv)) (An (fun (y4:lockedAt f ((highP f (col f c)).lo + n)=true)=>(An (An (fun (y5:lockedAt f ((highP f (col f c)).lo + n)=true)=>y4) tv) tv)) (An (fun (y6:lockedAt f ((highP f (col f c)).lo + n)=true)=>(An (Ak 1 tv) tv)) (An (fun (y7:lockedAt f ((highP f (col f c)).lo + n)=true)=>(An (An (fun (y8:lockedAt f ((highP f (col f c)).lo + n)=true)=>y7) (An (fun (y9:lockedAt f ((highP f (col f c)).lo + n)=true)=>y7) tv)) (o4 hpre y7))) (An (fun (y10:lockedAt f ((highP f (col f c)).lo + n)=true)=>(An (Ak 1 (An (fun (y11:lockedAt f ((highP f (col f c)).lo + n)=true)=>y10) (An (fun (y12:lockedAt f ((highP f (col f c)).lo + n)=true)=>y10) tv))) (An (An (zr (AV.agg (cFrm f))) (An (zr (iv ((highP f (col f c)).hi + n))) tv)) (An (t74 (f) ((highP f (col f c)).hi + n)) (An hpre.1 (Ak 1 (fun (i13:Env)=>tv))))))) (An (An (fun (y14:lockedAt f ((highP f (col f c)).lo + n)=true)=>y14) (fun (y15:lockedAt f ((highP f (col f c)).lo + n)=false)=>tv)) (Ak 1 tv)))))))))))) ?_
 refine swp_ret ?_
 exact zT [] (An (Ak 1 tv) (An (An (cb (o5 hpre)) (zr nilN)) (An (zr true) (An (zr true) (zr true)))))
theorem t101 (f:Frm) (c:Nat) (n:Int):Triple Try.prog 101 (s101 f c n):=by
 apply w101
 case o2=>intro hp; exact col_good hp.1 c
 case o3=>intro hp; have:=high_bound' hp.1 (col_good hp.1 c); exact ⟨by omega,by omega⟩
 case o4=>intro hp _; have:=high_bound' hp.1 (col_good hp.1 c); exact ⟨by omega,by omega⟩
 all_goals (try ((repeat intro _) <;> (try simp only [Bool.cond_true_left,Bool.cond_false_right,Bool.not_not,Bool.not_eq_true',Bool.not_eq_false',Bool.or_eq_true,Bool.or_eq_false_iff,Bool.and_eq_true,decide_eq_true_eq,decide_eq_false_iff_not,inI,big,fitsF,smallF,goodL] at *) <;> first | (exact rfl) | omega | (exact ⟨Nat.zero_le _,fun j hj=>absurd hj (Nat.not_lt_zero j)⟩) | (simp_all; done) | (simp_all; omega)))
theorem w30 (f:Frm)
  (o0:fitsF f->decide (40 < (↑(f.strips.length):Int))=false->(!decide (40 < (↑(f.strips.length):Int)))=true)
  (o1:fitsF f->(bif decide (40 < (↑(f.strips.length):Int)) then true else decide (40 < (↑(f.pieces.length):Int)))=false->(!bif decide (40 < (↑(f.strips.length):Int)) then true else decide (40 < (↑(f.pieces.length):Int)))=true)
  (o2:fitsF f->(bif bif decide (40 < (↑(f.strips.length):Int)) then true else decide (40 < (↑(f.pieces.length):Int)) then true else decide (40 < (↑(f.columns.length):Int)))=true->true=hugeF f)
  (o3:fitsF f->(bif bif decide (40 < (↑(f.strips.length):Int)) then true else decide (40 < (↑(f.pieces.length):Int)) then true else decide (40 < (↑(f.columns.length):Int)))=false->0=(↑0:Int))
  (o4:fitsF f->(bif bif decide (40 < (↑(f.strips.length):Int)) then true else decide (40 < (↑(f.pieces.length):Int)) then true else decide (40 < (↑(f.columns.length):Int)))=false->0<=f.columns.length /\ ∀ (j:Nat),j < 0->decide ((↑((col f j).length):Int) > 40)=false)
  (o5:fitsF f->(bif bif decide (40 < (↑(f.strips.length):Int)) then true else decide (40 < (↑(f.pieces.length):Int)) then true else decide (40 < (↑(f.columns.length):Int)))=false -> ∀ (x19:Nat),(x19<=f.columns.length /\ ∀ (j:Nat),j < x19->decide ((↑((col f j).length):Int) > 40)=false)->decide ((x19:Int) < (↑(f.columns.length):Int))=true->0<=(x19:Int))
  (o6:fitsF f->(bif bif decide (40 < (↑(f.strips.length):Int)) then true else decide (40 < (↑(f.pieces.length):Int)) then true else decide (40 < (↑(f.columns.length):Int)))=false -> ∀ (x19:Nat),(x19<=f.columns.length /\ ∀ (j:Nat),j < x19->decide ((↑((col f j).length):Int) > 40)=false)->decide ((x19:Int) < (↑(f.columns.length):Int))=true->(x19:Int) < (↑(f.columns.length):Int))
  (o7:fitsF f->(bif bif decide (40 < (↑(f.strips.length):Int)) then true else decide (40 < (↑(f.pieces.length):Int)) then true else decide (40 < (↑(f.columns.length):Int)))=false -> ∀ (x19:Nat),(x19<=f.columns.length /\ ∀ (j:Nat),j < x19->decide ((↑((col f j).length):Int) > 40)=false)->decide ((x19:Int) < (↑(f.columns.length):Int))=true->decide (40 < (↑((col f x19).length):Int))=true->true=hugeF f)
  (o8:fitsF f->(bif bif decide (40 < (↑(f.strips.length):Int)) then true else decide (40 < (↑(f.pieces.length):Int)) then true else decide (40 < (↑(f.columns.length):Int)))=false -> ∀ (x19:Nat),(x19<=f.columns.length /\ ∀ (j:Nat),j < x19->decide ((↑((col f j).length):Int) > 40)=false)->decide ((x19:Int) < (↑(f.columns.length):Int))=true->decide (40 < (↑((col f x19).length):Int))=false->inI ((x19:Int) + 1))
  (o9:fitsF f->(bif bif decide (40 < (↑(f.strips.length):Int)) then true else decide (40 < (↑(f.pieces.length):Int)) then true else decide (40 < (↑(f.columns.length):Int)))=false -> ∀ (x19:Nat),(x19<=f.columns.length /\ ∀ (j:Nat),j < x19->decide ((↑((col f j).length):Int) > 40)=false)->decide ((x19:Int) < (↑(f.columns.length):Int))=true->decide (40 < (↑((col f x19).length):Int))=false->(x19:Int) + 1=(↑(x19 + 1):Int))
  (o10:fitsF f->(bif bif decide (40 < (↑(f.strips.length):Int)) then true else decide (40 < (↑(f.pieces.length):Int)) then true else decide (40 < (↑(f.columns.length):Int)))=false -> ∀ (x19:Nat),(x19<=f.columns.length /\ ∀ (j:Nat),j < x19->decide ((↑((col f j).length):Int) > 40)=false)->decide ((x19:Int) < (↑(f.columns.length):Int))=true->decide (40 < (↑((col f x19).length):Int))=false->x19 + 1<=f.columns.length /\ ∀ (j:Nat),j < x19 + 1->decide ((↑((col f j).length):Int) > 40)=false)
  (o11:fitsF f->(bif bif decide (40 < (↑(f.strips.length):Int)) then true else decide (40 < (↑(f.pieces.length):Int)) then true else decide (40 < (↑(f.columns.length):Int)))=false -> ∀ (x19:Nat),(x19<=f.columns.length /\ ∀ (j:Nat),j < x19->decide ((↑((col f j).length):Int) > 40)=false)->decide ((x19:Int) < (↑(f.columns.length):Int))=true->decide (40 < (↑((col f x19).length):Int))=false->f.columns.length - (x19 + 1) < f.columns.length - x19)
  (o12:fitsF f->(bif bif decide (40 < (↑(f.strips.length):Int)) then true else decide (40 < (↑(f.pieces.length):Int)) then true else decide (40 < (↑(f.columns.length):Int)))=false -> ∀ (x19:Nat),(x19<=f.columns.length /\ ∀ (j:Nat),j < x19->decide ((↑((col f j).length):Int) > 40)=false)->decide ((x19:Int) < (↑(f.columns.length):Int))=false->false=hugeF f) :
  Triple Try.prog 30 (s30 f):=by
 refine triple_of Try.func30 rfl Try.call30 T0_ok _ rfl rfl rfl rfl (Nat.le_of_ble_eq_true (by kernel_rfl)) (fun _ _ _ _ h=>h) ?_
 intro hpre C hC _ hE
 obtain ⟨P,w0,E0,av,hA,ro,df⟩:=C
 obtain ⟨rfl,rfl,rfl⟩:=hC
 refine swp_seq ?_
 refine zR [1] [0] (Ak 2 tv) ?_
 refine swp_seq ?_
 refine swp_seq ?_
 refine zR [1,19] [0] (Ak 5 (An (fun (y0:(!decide (40 < (↑(f.strips.length):Int)))=true)=>(An (Ak 1 tv) tv)) (An (fun (y1:(!decide (40 < (↑(f.strips.length):Int)))=true)=>(An (An (fun (y2:(!decide (40 < (↑(f.strips.length):Int)))=true)=>y1) tv) tv)) (An (fun (y3:(!decide (40 < (↑(f.strips.length):Int)))=true)=>(An (An (fun (y4:(!decide (40 < (↑(f.strips.length):Int)))=true)=>y3) tv) tv)) (An (fun (y5:(!decide (40 < (↑(f.strips.length):Int)))=true)=>(An (An (fun (y6:(!decide (40 < (↑(f.strips.length):Int)))=true)=>y5) (Ak 1 tv)) tv)) (An (An (fun (y7:decide (40 < (↑(f.strips.length):Int))=true)=>tv) (fun (y8:decide (40 < (↑(f.strips.length):Int))=false)=>(o0 hpre y8))) (Ak 1 (An (fun (y9:(!bif decide (40 < (↑(f.strips.length):Int)) then true else decide (40 < (↑(f.pieces.length):Int)))=true)=>(An (Ak 1 tv) tv)) (An (fun (y10:(!bif decide (40 < (↑(f.strips.length):Int)) then true else decide (40 < (↑(f.pieces.length):Int)))=true)=>(An (An (fun (y11:(!bif decide (40 < (↑(f.strips.length):Int)) then true else decide (40 < (↑(f.pieces.length):Int)))=true)=>y10) tv) tv)) (An (fun (y12:(!bif decide (40 < (↑(f.strips.length):Int)) then true else decide (40 < (↑(f.pieces.length):Int)))=true)=>(An (An (fun (y13:(!bif decide (40 < (↑(f.strips.length):Int)) then true else decide (40 < (↑(f.pieces.length):Int)))=true)=>y12) tv) tv)) (An (fun (y14:(!bif decide (40 < (↑(f.strips.length):Int)) then true else decide (40 < (↑(f.pieces.length):Int)))=true)=>(An (An (fun (y15:(!bif decide (40 < (↑(f.strips.length):Int)) then true else decide (40 < (↑(f.pieces.length):Int)))=true)=>y14) (Ak 1 tv)) tv)) (An (An (fun (y16:(bif decide (40 < (↑(f.strips.length):Int)) then true else decide (40 < (↑(f.pieces.length):Int)))=true)=>tv) (fun (y17:(bif decide (40 < (↑(f.strips.length):Int)) then true else decide (40 < (↑(f.pieces.length):Int)))=false)=>(o1 hpre y17))) tv)))))))))))) ?_
 refine zI (bif bif decide (40 < (↑(f.strips.length):Int)) then true else decide (40 < (↑(f.pieces.length):Int)) then true else decide (40 < (↑(f.columns.length):Int))) (fun y18 => ?_) (fun y18 => ?_)
 ·refine swp_seq ?_
  refine zR [2] [] (Ak 1 tv) ?_
  refine swp_ret ?_
  exact zT [] (An (Ak 1 tv) (An (An (cb (o2 hpre y18)) (zr nilN)) (An (zr true) (An (zr true) (zr true)))))
 ·refine swp_skip ?_
  refine swp_seq ?_
  refine swp_seq ?_
  refine zR [1,3] [0] (Ak 1 tv) ?_
  refine swp_block ?_
  refine zL (Hint.ann (h30 f) [(1,AV.ptr 0 [])] [(0,OB.cells 26 (cFrm f))] 10152) (zE hE [] [(0,.same 0)] [] [0] (An (An (An (zr (some (Src.same 0))) (zr nilP)) (An (An (ci (o3 hpre y18)) (zr nilN)) tv)) (An (An (An (zr (OB.cells 26 (cFrm f))) (zr true)) tv) (An (zr true) (zr true))))) (o4 hpre y18) (fun (x19:Nat) hx19 => ?_)
  refine swp_seq ?_
  refine swp_seq ?_
  refine zR [1,3,24] [0] (Ak 5 tv) ?_
  refine zI (decide ((x19:Int) < (↑(f.columns.length):Int))) (fun y20 => ?_) (fun y20 => ?_)
  ·refine swp_skip ?_
   refine swp_seq ?_
   refine swp_block ?_
   refine swp_seq ?_
   refine zR [1,3,33] [0] (Ak 3 (An (An (o5 hpre y18 x19 hx19 y20) (o6 hpre y18 x19 hx19 y20)) (Ak 3 tv))) ?_
   refine zI (decide (40 < (↑((col f x19).length):Int))) (fun y21 => ?_) (fun y21 => ?_)
   ·refine swp_seq ?_
    refine zR [2] [] (Ak 1 tv) ?_
    refine swp_ret ?_
    exact zT [] (An (Ak 1 tv) (An (An (cb (o7 hpre y18 x19 hx19 y20 y21)) (zr nilN)) (An (zr true) (An (zr true) (zr true)))))
   ·refine swp_skip ?_
    refine zR [1,3] [0] (Ak 1 (An (o8 hpre y18 x19 hx19 y20 y21) (Ak 1 tv))) ?_
    exact zn (zE hE [] [(0,.same 0)] [] [0] (An (An (An (zr (some (Src.same 0))) (zr nilP)) (An (An (ci (o9 hpre y18 x19 hx19 y20 y21)) (zr nilN)) tv)) (An (An (An (zr (OB.cells 26 (cFrm f))) (zr true)) tv) (An (zr true) (zr true))))) (o10 hpre y18 x19 hx19 y20 y21) (o11 hpre y18 x19 hx19 y20 y21)
  ·refine swp_exit ?_
   refine swp_seq ?_
   refine zR [2] [] (Ak 1 tv) ?_
   refine swp_ret ?_
   exact zT [] (An (Ak 1 tv) (An (An (cb (o12 hpre y18 x19 hx19 y20)) (zr nilN)) (An (zr true) (An (zr true) (zr true)))))
theorem t30 (f:Frm):Triple Try.prog 30 (s30 f):=by
 apply w30
 case o2=>intro hp h; simp only [Bool.cond_true_left] at h; simp [hugeF,h]
 case o7 =>
  intro hp h x hx h2 h3
  simp only [decide_eq_true_eq] at h2
  have:=some_any f.columns [] (fun l=>decide ((l.length:Int) > 40)) (by omega) h3
  simp [hugeF,this]
 case o10 =>
  intro hp h x hx h2 h3
  simp only [decide_eq_true_eq] at h2
  exact ⟨by omega,lt_succ_cases hx.2 h3⟩
 case o12 =>
  intro hp h x hx h2
  simp only [decide_eq_false_iff_not] at h2
  simp only [Bool.cond_true_left] at h
  have:=any_idx f.columns [] (fun l=>decide ((l.length:Int) > 40)) (fun j hj=>hx.2 j (by omega))
  unfold hugeF
  rw [this,Bool.or_false]
  exact h.symm
 all_goals (try ((repeat intro _) <;> (try simp only [Bool.cond_true_left,Bool.cond_false_right,Bool.not_not,Bool.not_eq_true',Bool.not_eq_false',Bool.or_eq_true,Bool.or_eq_false_iff,Bool.and_eq_true,decide_eq_true_eq,decide_eq_false_iff_not,inI,big,fitsF,smallF,goodL] at *) <;> first | (exact rfl) | omega | (exact ⟨Nat.zero_le _,fun j hj=>absurd hj (Nat.not_lt_zero j)⟩) | (simp_all; done) | (simp_all; omega)))
theorem w41 (f:Frm)
  (o0:fitsF f->hugeF f=true->true=farF f)
  (o1:fitsF f->hugeF f=false->(!decide (checkF f=0))=true->false=farF f)
  (o2:fitsF f->hugeF f=false->(!decide (checkF f=0))=false->1=prodF f 0)
  (o3:fitsF f->hugeF f=false->(!decide (checkF f=0))=false->0=(↑0:Int))
  (o4:fitsF f->hugeF f=false->(!decide (checkF f=0))=false->0<=f.strips.length)
  (o5:fitsF f->hugeF f=false->(!decide (checkF f=0))=false -> ∀ (x4:Nat),x4<=f.strips.length->decide ((x4:Int) < (↑(f.strips.length):Int))=true->0<=(x4:Int))
  (o6:fitsF f->hugeF f=false->(!decide (checkF f=0))=false -> ∀ (x4:Nat),x4<=f.strips.length->decide ((x4:Int) < (↑(f.strips.length):Int))=true->(x4:Int) < (↑(f.strips.length):Int))
  (o7:fitsF f->hugeF f=false->(!decide (checkF f=0))=false -> ∀ (x4:Nat),x4<=f.strips.length->decide ((x4:Int) < (↑(f.strips.length):Int))=true->inI ((stp f x4).many + 1))
  (o8:fitsF f->hugeF f=false->(!decide (checkF f=0))=false -> ∀ (x4:Nat),x4<=f.strips.length->decide ((x4:Int) < (↑(f.strips.length):Int))=true->inI (prodF f x4 * ((stp f x4).many + 1)))
  (o9:fitsF f->hugeF f=false->(!decide (checkF f=0))=false -> ∀ (x4:Nat),x4<=f.strips.length->decide ((x4:Int) < (↑(f.strips.length):Int))=true->inI ((x4:Int) + 1))
  (o10:fitsF f->hugeF f=false->(!decide (checkF f=0))=false -> ∀ (x4:Nat),x4<=f.strips.length->decide ((x4:Int) < (↑(f.strips.length):Int))=true->prodF f x4 * ((stp f x4).many + 1)=prodF f (x4 + 1))
  (o11:fitsF f->hugeF f=false->(!decide (checkF f=0))=false -> ∀ (x4:Nat),x4<=f.strips.length->decide ((x4:Int) < (↑(f.strips.length):Int))=true->(x4:Int) + 1=(↑(x4 + 1):Int))
  (o12:fitsF f->hugeF f=false->(!decide (checkF f=0))=false -> ∀ (x4:Nat),x4<=f.strips.length->decide ((x4:Int) < (↑(f.strips.length):Int))=true->x4 + 1<=f.strips.length)
  (o13:fitsF f->hugeF f=false->(!decide (checkF f=0))=false -> ∀ (x4:Nat),x4<=f.strips.length->decide ((x4:Int) < (↑(f.strips.length):Int))=true->f.strips.length - (x4 + 1) < f.strips.length - x4)
  (o14:fitsF f->hugeF f=false->(!decide (checkF f=0))=false -> ∀ (x4:Nat),x4<=f.strips.length->decide ((x4:Int) < (↑(f.strips.length):Int))=false->decide (30 < prodF f x4)=farF f) :
  Triple Try.prog 41 (s41 f):=by
 refine triple_of Try.func41 rfl Try.call41 T0_ok _ rfl rfl rfl rfl (Nat.le_of_ble_eq_true (by kernel_rfl)) (fun _ _ _ _ h=>h) ?_
 intro hpre C hC _ hE
 obtain ⟨P,w0,E0,av,hA,ro,df⟩:=C
 obtain ⟨rfl,rfl,rfl⟩:=hC
 refine swp_seq ?_
 refine zR [1] [0] (Ak 2 tv) ?_
 refine swp_seq ?_
 refine swp_seq ?_
 refine zC ([(1,CallSpec.eq (s30 f) [true])]) [1,6] [0] (Ak 1 (An (An (An (zr (AV.agg (cFrm f))) tv) (An (t30 (f)) (An hpre (Ak 1 (fun (i0:Env)=>tv))))) tv)) ?_
 refine zI (hugeF f) (fun y1 => ?_) (fun y1 => ?_)
 ·refine swp_seq ?_
  refine zR [2] [] (Ak 1 tv) ?_
  refine swp_ret ?_
  exact zT [] (An (Ak 1 tv) (An (An (cb (o0 hpre y1)) (zr nilN)) (An (zr true) (An (zr true) (zr true)))))
 ·refine swp_skip ?_
  refine swp_seq ?_
  refine swp_seq ?_
  refine zC ([(1,CallSpec.eq (s35 f) [true])]) [1,9] [0] (Ak 1 (An (An (An (zr (AV.agg (cFrm f))) tv) (An (t35 (f)) (An hpre (Ak 1 (fun (i2:Env)=>tv))))) (Ak 1 tv))) ?_
  refine zI (!decide (checkF f=0)) (fun y3 => ?_) (fun y3 => ?_)
  ·refine swp_seq ?_
   refine zR [2] [] (Ak 1 tv) ?_
   refine swp_ret ?_
   exact zT [] (An (Ak 1 tv) (An (An (cb (o1 hpre y1 y3)) (zr nilN)) (An (zr true) (An (zr true) (zr true)))))
  ·refine swp_skip ?_
   refine swp_seq ?_
   refine zR [1,3] [0] (Ak 1 tv) ?_
   refine swp_seq ?_
   refine swp_seq ?_
   refine zR [1,3,4] [0] (Ak 1 tv) ?_
   refine swp_block ?_
   refine zL (Hint.ann (h41 f) [(1,AV.ptr 0 [])] [(0,OB.cells 26 (cFrm f))] 10072) (zE hE [] [(0,.same 0)] [] [0] (An (An (An (zr (some (Src.same 0))) (zr nilP)) (An (An (ci (o2 hpre y1 y3)) (zr nilN)) (An (An (ci (o3 hpre y1 y3)) (zr nilN)) tv))) (An (An (An (zr (OB.cells 26 (cFrm f))) (zr true)) tv) (An (zr true) (zr true))))) (o4 hpre y1 y3) (fun (x4:Nat) hx4 => ?_)
   refine swp_seq ?_
   refine swp_seq ?_
   refine zR [1,3,4,14] [0] (Ak 5 tv) ?_
   refine zI (decide ((x4:Int) < (↑(f.strips.length):Int))) (fun y5 => ?_) (fun y5 => ?_)
   ·refine swp_skip ?_
    refine swp_seq ?_
    refine swp_block ?_
    refine zR [1,3,4] [0] (Ak 4 (An (An (o5 hpre y1 y3 x4 hx4 y5) (o6 hpre y1 y3 x4 hx4 y5)) (Ak 2 (An (o7 hpre y1 y3 x4 hx4 y5) (An (o8 hpre y1 y3 x4 hx4 y5) (Ak 1 tv)))))) ?_
    refine zR [1,3,4] [0] (Ak 1 (An (o9 hpre y1 y3 x4 hx4 y5) (Ak 1 tv))) ?_
    exact zn (zE hE [] [(0,.same 0)] [] [0] (An (An (An (zr (some (Src.same 0))) (zr nilP)) (An (An (ci (o10 hpre y1 y3 x4 hx4 y5)) (zr nilN)) (An (An (ci (o11 hpre y1 y3 x4 hx4 y5)) (zr nilN)) tv))) (An (An (An (zr (OB.cells 26 (cFrm f))) (zr true)) tv) (An (zr true) (zr true))))) (o12 hpre y1 y3 x4 hx4 y5) (o13 hpre y1 y3 x4 hx4 y5)
   ·refine swp_exit ?_
    refine swp_seq ?_
    refine zR [2] [] (Ak 3 tv) ?_
    refine swp_ret ?_
    exact zT [] (An (Ak 1 tv) (An (An (cb (o14 hpre y1 y3 x4 hx4 y5)) (zr nilN)) (An (zr true) (An (zr true) (zr true)))))
theorem t41 (f:Frm):Triple Try.prog 41 (s41 f):=by
 apply w41
 case o0=>intro hp h; simp [farF,h]
 case o1=>intro hp h h2; simp only [Bool.not_eq_true',decide_eq_false_iff_not] at h2; cases e:okFrm f <;> simp_all [farF,checkF]
 case o7=>intro hp h h2 x hx h3; simp only [Bool.not_eq_false',decide_eq_true_eq] at h2 h3; have:=(sound_of (check_zero.1 h2)).strip x (by omega); exact ⟨by omega,by omega⟩
 case o8=>intro hp h h2 x hx h3; simp only [Bool.not_eq_false',decide_eq_true_eq] at h2 h3; exact prod_in (sound_of (check_zero.1 h2)) (by omega)
 case o9=>intro hp h h2 x hx h3; have:=hp.1; simp only [big] at *; exact ⟨by omega,by omega⟩
 case o10=>intro hp h h2 x hx h3; exact (prod_succ f x).symm
 case o14=>intro hp h h2 x hx h3; simp only [Bool.not_eq_false',decide_eq_true_eq] at h2; simp only [decide_eq_false_iff_not] at h3; rw [show x=f.strips.length by omega]; simp [farF,h,check_zero.1 h2]
 all_goals (try ((repeat intro _) <;> (try simp only [Bool.cond_true_left,Bool.cond_false_right,Bool.not_not,Bool.not_eq_true',Bool.not_eq_false',Bool.or_eq_true,Bool.or_eq_false_iff,Bool.and_eq_true,decide_eq_true_eq,decide_eq_false_iff_not,inI,big,fitsF,smallF,goodL] at *) <;> first | (exact rfl) | omega | (exact ⟨Nat.zero_le _,fun j hj=>absurd hj (Nat.not_lt_zero j)⟩) | (simp_all; done) | (simp_all; omega)))
end Go.Ab
namespace Go.Sh
def idxW (l:List Int) (P:Int->Bool):Int:=match l.findIdx? P with | some i=>i | none => -1
theorem idxW_found {l:List Int} {P:Int->Bool} {x:Nat} (hx:x < l.length) (h:∀ j,j < x->P (l.getD j 0)=false) (hp:P (l.getD x 0)=true):idxW l P=x:=by
 have:l.findIdx? P=some x:=by
  rw [List.findIdx?_eq_some_iff_getElem]
  refine ⟨hx,by rw [← Go.Ab.getD_lt l 0 hx]; exact hp,fun j hj => ?_⟩
  rw [← Go.Ab.getD_lt l 0 (by omega),h j hj]; simp
 simp [idxW,this]
theorem idxW_none {l:List Int} {P:Int->Bool} (h:∀ j,j < l.length->P (l.getD j 0)=false):idxW l P = -1:=by
 have:l.findIdx? P=none:=by
  rw [List.findIdx?_eq_none_iff]
  intro x hx
  have h1:=Go.Ab.any_idx l 0 P h
  rw [List.any_eq_false] at h1
  simpa using h1 x hx
 simp [idxW,this]
theorem idxW_spec (l:List Int) (P:Int->Bool):(idxW l P = -1 /\ ∀ w,w ∈ l->P w=false) ∨ ∃ i:Nat,idxW l P=i/\i < l.length/\P (l.getD i 0)=true /\ ∀ j,j < i->P (l.getD j 0)=false:=by
 unfold idxW
 cases e:l.findIdx? P with
 | none =>
  left
  rw [List.findIdx?_eq_none_iff] at e
  exact ⟨rfl,e⟩
 | some i =>
  right
  rw [List.findIdx?_eq_some_iff_getElem] at e
  obtain ⟨h,h1,h2⟩:=e
  refine ⟨i,rfl,h,by rw [Go.Ab.getD_lt l 0 h]; exact h1,fun j hj => ?_⟩
  rw [Go.Ab.getD_lt l 0 (by omega)]
  simpa using h2 j hj
def keptW (l:List Int) (P:Int->Bool) (n:Nat):List Int:=(l.take n).filter fun w => !P w
def delW (l:List Int) (P:Int->Bool):List Int:=l.filter fun w => !P w
theorem keptW_t {l:List Int} {P:Int->Bool} {n:Nat} (h:n < l.length) (hp:P (l.getD n 0)=true):keptW l P (n + 1)=keptW l P n:=by
 unfold keptW; rw [Go.Ab.take_succ _ 0 h,List.filter_append,List.filter_cons_of_neg (by rw [hp]; exact Bool.false_ne_true),List.filter_nil,List.append_nil]
theorem keptW_f {l:List Int} {P:Int->Bool} {n:Nat} (h:n < l.length) (hp:P (l.getD n 0)=false):keptW l P (n + 1)=keptW l P n ++ [l.getD n 0]:=by
 unfold keptW; rw [Go.Ab.take_succ _ 0 h,List.filter_append,List.filter_cons_of_pos (by rw [hp]; rfl)]; rfl
theorem keptW_len (l:List Int) (P:Int->Bool) (n:Nat):(keptW l P n).length<=n:=by
 unfold keptW; exact Nat.le_trans (List.length_filter_le _ _) (by rw [List.length_take]; omega)
theorem keptW_full {l:List Int} {P:Int->Bool} {n:Nat} (h:l.length<=n):keptW l P n=delW l P:=by
 unfold keptW delW; rw [List.take_of_length_le h]
theorem keptW_first {l:List Int} {P:Int->Bool}:∀ {n:Nat},n<=l.length->(∀ j,j < n->P (l.getD j 0)=false)->keptW l P n=l.take n:=by
 intro n
 induction n with
 | zero=>intro _ _; rfl
 | succ n ih=>intro h h1; rw [keptW_f (by omega) (h1 n (by omega)),ih (by omega) (fun j hj=>h1 j (by omega)),Go.Ab.take_succ _ 0 (by omega)]
def rowW (l:List Int) (P:Int->Bool) (n q:Nat):Int:=if q < (keptW l P n).length then (keptW l P n).getD q 0 else l.getD q 0
def firstD (l:List Int) (P:Int->Bool):Nat:=(idxW l P).toNat
theorem first_spec {l:List Int} {P:Int->Bool} (h:decide (idxW l P = -1)=false):idxW l P=firstD l P/\firstD l P < l.length/\P (l.getD (firstD l P) 0)=true /\ ∀ j,j < firstD l P->P (l.getD j 0)=false:=by
 have h0:idxW l P ≠ -1:=of_decide_eq_false h
 rcases idxW_spec l P with ⟨e,_⟩ | ⟨i,e,h1,h2,h3⟩
 ·exact absurd e h0
 ·have:firstD l P=i:=by unfold firstD; rw [e]; rfl
  rw [this]; exact ⟨e,h1,h2,h3⟩
theorem kept_first {l:List Int} {P:Int->Bool} (h:decide (idxW l P = -1)=false):keptW l P (firstD l P + 1)=l.take (firstD l P)/\(keptW l P (firstD l P + 1)).length=firstD l P:=by
 obtain ⟨_,h1,h2,h3⟩:=first_spec h
 have:keptW l P (firstD l P + 1)=l.take (firstD l P):=by rw [keptW_t h1 h2,keptW_first (by omega) h3]
 exact ⟨this,by rw [this,List.length_take]; omega⟩
theorem kept_lt {l:List Int} {P:Int->Bool} (h:decide (idxW l P = -1)=false):∀ j,firstD l P + 1<=j->j<=l.length->(keptW l P j).length < j:=by
 intro j h1
 induction j with
 | zero=>omega
 | succ j ih =>
  intro h2
  by_cases e:j=firstD l P
  ·rw [e,(kept_first h).2]; omega
  ·have h3:=ih (by omega) (by omega)
   cases hp:P (l.getD j 0) with
   | true=>rw [keptW_t (by omega) hp]; omega
   | false=>rw [keptW_f (by omega) hp,List.length_append]; simp; omega
theorem rowW_self (l:List Int) (P:Int->Bool) (j:Nat):rowW l P j j=l.getD j 0:=by
 unfold rowW; rw [if_neg (by have:=keptW_len l P j; omega)]
theorem rowW_t {l:List Int} {P:Int->Bool} {j:Nat} (h:j < l.length) (hp:P (l.getD j 0)=true) (q:Nat):rowW l P (j + 1) q=rowW l P j q:=by unfold rowW; rw [keptW_t h hp]
theorem rowW_f {l:List Int} {P:Int->Bool} {j:Nat} (h:j < l.length) (hp:P (l.getD j 0)=false) (q:Nat):rowW l P (j + 1) q=if q=(keptW l P j).length then l.getD j 0 else rowW l P j q:=by
 unfold rowW
 rw [keptW_f h hp,List.length_append,List.length_singleton,Go.Ab.getD_append]
 by_cases h1:q < (keptW l P j).length
 ·rw [if_pos (by omega),if_pos h1,if_neg (by omega),if_pos h1]
 ·by_cases h2:q=(keptW l P j).length
  ·subst h2; rw [if_pos (by omega),if_neg h1,if_pos rfl,Nat.sub_self]; rfl
  ·rw [if_neg (by omega),if_neg h2,if_neg h1]
theorem rowW_first {l:List Int} {P:Int->Bool} (h:decide (idxW l P = -1)=false) (q:Nat):rowW l P (firstD l P + 1) q=l.getD q 0:=by
 obtain ⟨h1,h2⟩:=kept_first h
 have h3:=(first_spec h).2.1
 unfold rowW
 rw [h2]
 split
 ·rename_i hq
  rw [h1,Go.Ab.getD_lt _ _ (by rw [List.length_take]; omega),List.getElem_take,Go.Ab.getD_lt _ _ (by omega)]
 ·rfl
theorem del_none {l:List Int} {P:Int->Bool} (h:decide (idxW l P = -1)=true):delW l P=l:=by
 have h0:idxW l P = -1:=of_decide_eq_true h
 rcases idxW_spec l P with ⟨_,h1⟩ | ⟨i,e,_⟩
 ·unfold delW; rw [List.filter_eq_self]; intro w hw; rw [h1 w hw]; rfl
 ·omega
end Go.Sh
namespace Go.Sh
open Go Go.Ab Go.En
def endA (ws:List Int) (P:Int->Bool) (q:Nat):List AV:=if q < (delW ws P).length then [iv ((delW ws P).getD q 0)] else [iv 0]
theorem endA_lt {ws:List Int} {P:Int->Bool} {q:Nat} (h:q < (delW ws P).length):endA ws P q = [iv ((delW ws P).getD q 0)]:=if_pos h
theorem endA_ge {ws:List Int} {P:Int->Bool} {q:Nat} (h:¬ q < (delW ws P).length):endA ws P q = [iv 0]:=if_neg h
theorem inI_div2 {w:Int} {n:Nat} (h:0<=w) (h1:w<=1000):inI (w / 2 ^ n):=by
 have h2:0<=w / 2 ^ n:=Int.ediv_nonneg h (Int.le_of_lt (Int.pow_pos (by omega)))
 have h3:w / 2 ^ n<=w:=Int.ediv_le_self _ h
 constructor <;> omega
def bitP (w:Int) (p:Int):Bool:=decide (w / 2 ^ p.toNat % 2=1)
end Go.Sh
namespace Go.Ab
open Go Go.RowKit Go.Proofs Go.Sh Go.En
abbrev rowN (l:List Int):OB:=rowI 3 l
def ou126 (ws:List Int):OutSpec:={ args:=[aInts ws],pre:=0 < ws.length/\ws.length<=60000,res := .vec 0,hout:=[(0,rowN ws)] }
def ou126n:OutSpec:={ args:=[nilv],res := .vec 0,hout:=[(0,rowN [])] }
def ou126e (a:Addr) (c:Nat):OutSpec:={ args:=[.lit (.slice (some a) 0 c)],res := .vec 0,hout:=[(0,rowN [])] }
def s126o (l:List Int) (id:Nat):CallSpec:={ args:=[aInts l],pre:=l.length<=60000,res := .vec id,hout:=[(id,rowN l)] }
def io148 (ws:List Int) (P:Int->Bool):IoSpec:={ args:=[.vec 0,.fn 0],pre:=ws.length<=65536,fnok:=fnokOf Try.prog 0 (fun w:{ w:Int // w ∈ ws }=>[iv w.1]) (fun w=>bv (P w.1)),hin:=[(0,rowN ws)],res:=iv (idxW ws P),hout:=[(0,rowN ws)] }
def s148 (b:Nat) (ws:List Int) (P:Int->Bool):CallSpec:=(io148 ws P).at [(0,b)]
def h148 (ws:List Int) (P:Int->Bool):Hint:={ X:=Nat,M:=fun i=>[(8,iv i)],I:=fun i=>i<=ws.length /\ ∀ j,j < i->P (ws.getD j 0)=false,mu:=fun i=>ws.length - i,x0:=(0:Nat),nx:=fun i=>i + 1 }
def c148 (ws:List Int) (P:Int->Bool) (x:Nat):CallSpec:={ args:=[iv (ws.getD x 0)],res:=bv (P (ws.getD x 0)) }
def io125 (ws:List Int) (P:Int->Bool):IoSpec:={ args:=[.vec 0,.fn 0],pre:=ws.length<=65536,fnok:=fnokOf Try.prog 0 (fun w:{ w:Int // w ∈ ws }=>[iv w.1]) (fun w=>bv (P w.1)),hin:=[(0,rowN ws)],res:=aInts (delW ws P),hout:=[] }
def s125 (b:Nat) (ws:List Int) (P:Int->Bool):CallSpec:=(io125 ws P).at [(0,b)]
def h125 (ws:List Int) (P:Int->Bool):Hint:={ X:=Nat,M:=fun j=>[(5,iv (keptW ws P j).length),(6,iv j)],H:=fun j=>[(0,.vec 3 1 ws.length (fun q=>[iv (rowW ws P j q)]))],I:=fun j=>firstD ws P + 1<=j/\j<=ws.length,mu:=fun j=>ws.length - j,x0:=firstD ws P + 1,nx:=fun j=>j + 1 }
def c125a (ws:List Int) (P:Int->Bool):CallSpec:=s148 0 ws P
def c125b (ws:List Int) (P:Int->Bool) (x:Nat):CallSpec:={ args:=[iv (ws.getD x 0)],res:=bv (P (ws.getD x 0)) }
def s127 (p w:Int):CallSpec:={ args:=[iv p,.rp [iv w]],res:=bv (bitP w p),pre:=0<=p/\p<=62/\0<=w/\w<=1000 }
end Go.Ab
namespace Go.Ab
open Go Go.RowKit Go.Proofs Go.Sh Go.En
theorem wo126 (ws:List Int)
  (o0:0 < ws.length/\ws.length<=60000->0 + ws.length<=65536)
  (o1:0 < ws.length/\ws.length<=60000->0 + ws.length=ws.length)
  (l:List (Nat × Nat)) (hl:l.map (·.1)=(OutSpec.hout (ou126 ws)).map (·.1)) (hnd:(l.map (·.2)).Nodup) :
  Triple Try.prog 126 (OutSpec.at (ou126 ws) l):=by
 refine triple_out Try.func126 rfl Try.call126 T0_ok _ _ _ _ l rfl (Nat.le_of_ble_eq_true (by kernel_rfl)) hl hnd (by kernel_rfl) (by kernel_rfl) (by kernel_rfl) ?_
 intro hpre C hC hE
 obtain ⟨P,w0,E0,av,hA,ro,df⟩:=C
 obtain ⟨rfl,rfl,rfl⟩:=hC
 refine swp_seq ?_
 refine zR [0] [] (Ak 1 tv) ?_
 refine swp_seq ?_
 refine swp_seq ?_
 refine zR [0,4] [] (Ak 1 (An hpre.1 tv)) ?_
 refine zf ?_
 refine swp_skip ?_
 refine swp_seq ?_
 refine zR [2] [40] (Ak 2 (An (o0 hpre) (Ak 1 tv))) ?_
 refine swp_ret ?_
 exact zO (ASt.mk [(2,AV.vec 0)] [(0,OB.vec 3 1 ws.length fun (i:Nat)=>[iv (ws.getD i 0)])] 100) (zE hE [] [(0,.same 40)] [] [] (An (An (zr (some (Src.same 40))) tv) (An (An (An (zr 3) (An (zr 1) (An (o1 hpre) (fun (i0:Nat)=>(fun (y1:i0 < 0 + ws.length)=>(zr ([iv (ws.getD i0 0)]))))))) tv) (An (zr true) (zr true))))) (An (Ak 1 tv) (An (zr (AV.vec 0)) (An (zr (some (OB.vec 3 1 ws.length fun (i:Nat)=>[iv (ws.getD i 0)]))) tv)))
theorem wo126n 
  (l:List (Nat × Nat)) (hl:l.map (·.1)=(OutSpec.hout (ou126n)).map (·.1)) (hnd:(l.map (·.2)).Nodup) :
  Triple Try.prog 126 (OutSpec.at (ou126n) l):=by
 refine triple_out Try.func126 rfl Try.call126 T0_ok _ _ _ _ l rfl (Nat.le_of_ble_eq_true (by kernel_rfl)) hl hnd (by kernel_rfl) (by kernel_rfl) (by kernel_rfl) ?_
 intro _ C hC hE
 obtain ⟨P,w0,E0,av,hA,ro,df⟩:=C
 obtain ⟨rfl,rfl,rfl⟩:=hC
 refine swp_seq ?_
 refine zR [0] [] (Ak 1 tv) ?_
 refine swp_seq ?_
 refine swp_seq ?_
 refine zR [0,4] [] (Ak 2 tv) ?_
 refine zt ?_
 refine swp_seq ?_
 refine zR [2] [] (Ak 1 tv) ?_
 refine swp_ret ?_
 exact zO (ASt.mk [(2,AV.vec 0)] [(0,OB.vec 3 1 0 fun (i:Nat)=>[iv (List.getD [] i 0)])] 100) (zE hE [] [(0,.nil)] [] [] (An (An (zr (some Src.nil)) tv) (An (An (zr 0) tv) (An (zr true) (zr true))))) (An (Ak 1 tv) (An (zr (AV.vec 0)) (An (zr (some (OB.vec 3 1 0 fun (i:Nat)=>[iv (List.getD [] i 0)]))) tv)))
theorem wo126e (a:Addr) (c:Nat)
  (o0:∀ (i0:Nat),i0 < 0->nilA = [iv (List.getD [] i0 0)])
  (l:List (Nat × Nat)) (hl:l.map (·.1)=(OutSpec.hout (ou126e a c)).map (·.1)) (hnd:(l.map (·.2)).Nodup) :
  Triple Try.prog 126 (OutSpec.at (ou126e a c) l):=by
 refine triple_out Try.func126 rfl Try.call126 T0_ok _ _ _ _ l rfl (Nat.le_of_ble_eq_true (by kernel_rfl)) hl hnd (by kernel_rfl) (by kernel_rfl) (by kernel_rfl) ?_
 intro _ C hC hE
 obtain ⟨P,w0,E0,av,hA,ro,df⟩:=C
 obtain ⟨rfl,rfl,rfl⟩:=hC
 refine swp_seq ?_
 refine zR [0] [] (Ak 1 tv) ?_
 refine swp_seq ?_
 refine swp_seq ?_
 refine zR [0,4] [] (Ak 2 tv) ?_
 refine zf ?_
 refine swp_skip ?_
 refine swp_seq ?_
 refine zR [2] [40] (Ak 2 (An (by decide:0 + 0<=65536) (Ak 1 tv))) ?_
 refine swp_ret ?_
 exact zO (ASt.mk [(2,AV.vec 0)] [(0,OB.vec 3 1 0 fun (i:Nat)=>[iv (List.getD [] i 0)])] 100) (zE hE [] [(0,.same 40)] [] [] (An (An (zr (some (Src.same 40))) tv) (An (An (An (zr 3) (An (zr 1) (An (zr 0) (fun (i0:Nat)=>(fun (y1:i0 < 0)=>(o0 i0 y1)))))) tv) (An (zr true) (zr true))))) (An (Ak 1 tv) (An (zr (AV.vec 0)) (An (zr (some (OB.vec 3 1 0 fun (i:Nat)=>[iv (List.getD [] i 0)]))) tv)))
theorem t126o (ws:List Int) (id:Nat):Triple Try.prog 126 (s126o ws id):=by
 have t0:=wo126n (l:=[(0,id)]) (hl:=rfl) (hnd:=by simp)
 refine ⟨t0.1,fun hp E w vs hf hh hl hr hq => ?_⟩
 cases ws with
 | nil =>
  have key:∀ v,vs.getD 0 undef=v -> ∀ k,Rel E true (([.lit v]:List AV).getD k .any) (vs.getD k undef):=fun v e k=>by
   cases k with
   | zero=>rw [e]; exact .lit v
   | succ k=>exact .any _
  have h0:=hr 0
  change Rel E true (.sl 1 0 _) (vs.getD 0 undef) at h0
  generalize e:vs.getD 0 undef=v at h0
  cases h0 with
  | slN=>exact t0.2 trivial E w vs hf hh hl (key _ e) hq
  | slA=>exact (wo126e _ _ (fun _ h=>absurd h (by omega)) (l:=[(0,id)]) (hl:=rfl) (hnd:=by simp)).2 trivial E w vs hf hh hl (key _ e) hq
  | slZ=>exact (wo126e _ _ (fun _ h=>absurd h (by omega)) (l:=[(0,id)]) (hl:=rfl) (hnd:=by simp)).2 trivial E w vs hf hh hl (key _ e) hq
 | cons a ws =>
  refine (wo126 (a :: ws) (l:=[(0,id)]) ?_ ?_ (hl:=rfl) (hnd:=by simp)).2 ⟨Nat.succ_pos _,hp⟩ E w vs hf hh hl hr hq
  all_goals ((repeat intro _) <;> (try simp only [Bool.cond_true_left,Bool.cond_false_right,Bool.not_not,Bool.not_eq_true',Bool.not_eq_false',Bool.or_eq_true,Bool.or_eq_false_iff,Bool.and_eq_true,decide_eq_true_eq,decide_eq_false_iff_not,inI,big] at *) <;> first | (exact rfl) | omega | (exact ⟨Nat.zero_le _,fun j hj=>absurd hj (Nat.not_lt_zero j)⟩) | (simp_all; done) | (simp_all; omega))
theorem wio148 (ws:List Int) (P:Int->Bool)
  (o0:∀ (E0:Env),fnokOf Try.prog 0 (fun (w:{ w:Int // w ∈ ws })=>[iv (Subtype.val w)]) (fun (w:{ w:Int // w ∈ ws })=>bv (P (Subtype.val w))) E0->ws.length<=65536->0=(↑0:Int))
  (o1:∀ (E0:Env),fnokOf Try.prog 0 (fun (w:{ w:Int // w ∈ ws })=>[iv (Subtype.val w)]) (fun (w:{ w:Int // w ∈ ws })=>bv (P (Subtype.val w))) E0->ws.length<=65536->0<=ws.length /\ ∀ (j:Nat),j < 0->P (ws.getD j 0)=false)
  (o2:∀ (E0:Env),fnokOf Try.prog 0 (fun (w:{ w:Int // w ∈ ws })=>[iv (Subtype.val w)]) (fun (w:{ w:Int // w ∈ ws })=>bv (P (Subtype.val w))) E0->ws.length<=65536 -> ∀ (x0:Nat),(x0<=ws.length /\ ∀ (j:Nat),j < x0->P (ws.getD j 0)=false)->decide ((x0:Int) < (↑(ws.length):Int))=true->0<=(x0:Int))
  (o3:∀ (E0:Env),fnokOf Try.prog 0 (fun (w:{ w:Int // w ∈ ws })=>[iv (Subtype.val w)]) (fun (w:{ w:Int // w ∈ ws })=>bv (P (Subtype.val w))) E0->ws.length<=65536 -> ∀ (x0:Nat),(x0<=ws.length /\ ∀ (j:Nat),j < x0->P (ws.getD j 0)=false)->decide ((x0:Int) < (↑(ws.length):Int))=true->(x0:Int) < (↑(ws.length):Int))
  (o4:∀ (E0:Env),fnokOf Try.prog 0 (fun (w:{ w:Int // w ∈ ws })=>[iv (Subtype.val w)]) (fun (w:{ w:Int // w ∈ ws })=>bv (P (Subtype.val w))) E0->ws.length<=65536 -> ∀ (x0:Nat),(x0<=ws.length /\ ∀ (j:Nat),j < x0->P (ws.getD j 0)=false)->decide ((x0:Int) < (↑(ws.length):Int))=true->x0 < ws.length)
  (o5:∀ (E0:Env),fnokOf Try.prog 0 (fun (w:{ w:Int // w ∈ ws })=>[iv (Subtype.val w)]) (fun (w:{ w:Int // w ∈ ws })=>bv (P (Subtype.val w))) E0->ws.length<=65536 -> ∀ (x0:Nat),(x0<=ws.length /\ ∀ (j:Nat),j < x0->P (ws.getD j 0)=false)->decide ((x0:Int) < (↑(ws.length):Int))=true -> ∀ (i2:Value),E0.4 0 i2->FnOK Try.prog E0 i2 [iv (ws.getD x0 0)] (bv (P (ws.getD x0 0))))
  (o6:∀ (E0:Env),fnokOf Try.prog 0 (fun (w:{ w:Int // w ∈ ws })=>[iv (Subtype.val w)]) (fun (w:{ w:Int // w ∈ ws })=>bv (P (Subtype.val w))) E0->ws.length<=65536 -> ∀ (x0:Nat),(x0<=ws.length /\ ∀ (j:Nat),j < x0->P (ws.getD j 0)=false)->decide ((x0:Int) < (↑(ws.length):Int))=true->P (ws.getD x0 0)=true->(x0:Int)=idxW ws P)
  (o7:∀ (E0:Env),fnokOf Try.prog 0 (fun (w:{ w:Int // w ∈ ws })=>[iv (Subtype.val w)]) (fun (w:{ w:Int // w ∈ ws })=>bv (P (Subtype.val w))) E0->ws.length<=65536 -> ∀ (x0:Nat),(x0<=ws.length /\ ∀ (j:Nat),j < x0->P (ws.getD j 0)=false)->decide ((x0:Int) < (↑(ws.length):Int))=true->P (ws.getD x0 0)=false->inI ((x0:Int) + 1))
  (o8:∀ (E0:Env),fnokOf Try.prog 0 (fun (w:{ w:Int // w ∈ ws })=>[iv (Subtype.val w)]) (fun (w:{ w:Int // w ∈ ws })=>bv (P (Subtype.val w))) E0->ws.length<=65536 -> ∀ (x0:Nat),(x0<=ws.length /\ ∀ (j:Nat),j < x0->P (ws.getD j 0)=false)->decide ((x0:Int) < (↑(ws.length):Int))=true->P (ws.getD x0 0)=false->(x0:Int) + 1=(↑(x0 + 1):Int))
  (o9:∀ (E0:Env),fnokOf Try.prog 0 (fun (w:{ w:Int // w ∈ ws })=>[iv (Subtype.val w)]) (fun (w:{ w:Int // w ∈ ws })=>bv (P (Subtype.val w))) E0->ws.length<=65536 -> ∀ (x0:Nat),(x0<=ws.length /\ ∀ (j:Nat),j < x0->P (ws.getD j 0)=false)->decide ((x0:Int) < (↑(ws.length):Int))=true->P (ws.getD x0 0)=false->x0 + 1<=ws.length /\ ∀ (j:Nat),j < x0 + 1->P (ws.getD j 0)=false)
  (o10:∀ (E0:Env),fnokOf Try.prog 0 (fun (w:{ w:Int // w ∈ ws })=>[iv (Subtype.val w)]) (fun (w:{ w:Int // w ∈ ws })=>bv (P (Subtype.val w))) E0->ws.length<=65536 -> ∀ (x0:Nat),(x0<=ws.length /\ ∀ (j:Nat),j < x0->P (ws.getD j 0)=false)->decide ((x0:Int) < (↑(ws.length):Int))=true->P (ws.getD x0 0)=false->ws.length - (x0 + 1) < ws.length - x0)
  (o11:∀ (E0:Env),fnokOf Try.prog 0 (fun (w:{ w:Int // w ∈ ws })=>[iv (Subtype.val w)]) (fun (w:{ w:Int // w ∈ ws })=>bv (P (Subtype.val w))) E0->ws.length<=65536 -> ∀ (x0:Nat),(x0<=ws.length /\ ∀ (j:Nat),j < x0->P (ws.getD j 0)=false)->decide ((x0:Int) < (↑(ws.length):Int))=false -> -1=idxW ws P)
  (l:List (Nat × Nat)) (hl:l.map (·.1) = [0]) (hnd:(l.map (·.2)).Nodup) :
  Triple Try.prog 148 (IoSpec.at (io148 ws P) l):=by
 refine triple_io Try.func148 rfl Try.call148 T0_ok (io148 ws P) 1 l (by rw [hl]; kernel_rfl) hnd (Nat.le_of_ble_eq_true (by kernel_rfl)) fnokOf_congr ?_
 intro hpre C hC hfn hE
 obtain ⟨P,w0,E0,av,hA,ro,df⟩:=C
 obtain ⟨rfl,rfl,rfl⟩:=hC
 refine swp_seq ?_
 refine zR [0,1] [0] (Ak 1 tv) ?_
 refine swp_seq ?_
 refine swp_seq ?_
 refine zR [0,1,7,8] [0] (Ak 3 tv) ?_
 refine swp_block ?_
 refine zL (Hint.ann (h148 ws P) [(0,AV.vec 0),(1,AV.fn 0),(7,iv (↑(ws.length):Int))] [(0,OB.vec 3 1 ws.length fun (i:Nat)=>[iv (ws.getD i 0)])] 10033) (zEn 1 hE [] [(0,.same 0)] [1,7] [0] (An (An (zr (some (Src.same 0))) (An (An (zr (AV.fn 0)) (zr true)) (An (An (zr (iv (↑(ws.length):Int))) (zr true)) (An (An (ci (o0 E0 hfn hpre)) (zr nilN)) tv)))) (An (An (An (zr (OB.vec 3 1 ws.length fun (i:Nat)=>[iv (ws.getD i 0)])) (zr true)) tv) (An (zr true) (zr true))))) (o1 E0 hfn hpre) (fun (x0:Nat) hx0 => ?_)
 refine swp_seq ?_
 refine zR [0,1,7,8,9] [0] (Ak 1 tv) ?_
 refine swp_seq ?_
 refine zI (decide ((x0:Int) < (↑(ws.length):Int))) (fun y1 => ?_) (fun y1 => ?_)
 ·refine swp_skip ?_
  refine swp_seq ?_
  refine swp_block ?_
  refine swp_seq ?_
  refine zR [0,1,7,8,5] [0] (Ak 2 tv) ?_
  refine swp_seq ?_
  refine zC ([(5,CallSpec.eq (c148 ws P x0) [true])]) [0,1,7,8,5,16] [0] (Ak 3 (An (An (o2 E0 hfn hpre x0 hx0 y1) (o3 E0 hfn hpre x0 hx0 y1)) (An (An (o4 E0 hfn hpre x0 hx0 y1) tv) (An (An (An (zr (iv (ws.getD x0 0))) tv) (fun (i2:Value)=>(fun (y3:E0.4 0 i2)=>(o5 E0 hfn hpre x0 hx0 y1 i2 y3)))) tv)))) ?_
  refine zI (P (ws.getD x0 0)) (fun y4 => ?_) (fun y4 => ?_)
  ·refine swp_seq ?_
   refine zR [4] [0] (Ak 2 tv) ?_
   refine swp_ret ?_
   exact zO (ASt.mk [(4,iv (idxW ws P))] [(0,OB.vec 3 1 ws.length fun (i:Nat)=>[iv (ws.getD i 0)])] 100) (zEn 1 hE [] [(0,.same 0)] [] [0] (An (An (An (ci (o6 E0 hfn hpre x0 hx0 y1 y4)) (zr nilN)) tv) (An (An (An (zr (OB.vec 3 1 ws.length fun (i:Nat)=>[iv (ws.getD i 0)])) (zr true)) tv) (An (zr true) (zr true))))) (An (Ak 1 tv) (An (zr (iv (idxW ws P))) (An (zr (some (OB.vec 3 1 ws.length fun (i:Nat)=>[iv (ws.getD i 0)]))) tv)))
  ·refine swp_skip ?_
   refine zR [0,1,7,8] [0] (An (o7 E0 hfn hpre x0 hx0 y1 y4) (Ak 1 tv)) ?_
   exact zn (zEn 1 hE [] [(0,.same 0)] [1,7] [0] (An (An (zr (some (Src.same 0))) (An (An (zr (AV.fn 0)) (zr true)) (An (An (zr (iv (↑(ws.length):Int))) (zr true)) (An (An (ci (o8 E0 hfn hpre x0 hx0 y1 y4)) (zr nilN)) tv)))) (An (An (An (zr (OB.vec 3 1 ws.length fun (i:Nat)=>[iv (ws.getD i 0)])) (zr true)) tv) (An (zr true) (zr true))))) (o9 E0 hfn hpre x0 hx0 y1 y4) (o10 E0 hfn hpre x0 hx0 y1 y4)
 ·refine swp_exit ?_
  refine swp_seq ?_
  refine zR [4] [0] (Ak 1 tv) ?_
  refine swp_ret ?_
  exact zO (ASt.mk [(4,iv (idxW ws P))] [(0,OB.vec 3 1 ws.length fun (i:Nat)=>[iv (ws.getD i 0)])] 100) (zEn 1 hE [] [(0,.same 0)] [] [0] (An (An (An (ci (o11 E0 hfn hpre x0 hx0 y1)) (zr nilN)) tv) (An (An (An (zr (OB.vec 3 1 ws.length fun (i:Nat)=>[iv (ws.getD i 0)])) (zr true)) tv) (An (zr true) (zr true))))) (An (Ak 1 tv) (An (zr (iv (idxW ws P))) (An (zr (some (OB.vec 3 1 ws.length fun (i:Nat)=>[iv (ws.getD i 0)]))) tv)))
theorem t148 (b:Nat) (ws:List Int) (P:Int->Bool):Triple Try.prog 148 (s148 b ws P):=by
 refine wio148 ws P ?_ ?_ ?_ ?_ ?_ ?_ ?_ ?_ ?_ ?_ ?_ ?_ [(0,b)] rfl (by simp)
 case refine_6=>intro E0 hfn hp x hx hl u hu; exact hfn u hu ⟨_,getD_mem ws 0 (by simpa using hl)⟩
 case refine_7=>intro E0 hfn hp x hx hl h; simp only [decide_eq_true_eq] at hl; exact (idxW_found (by omega) hx.2 h).symm
 case refine_10=>intro E0 hfn hp x hx hl h; simp only [decide_eq_true_eq] at hl; exact ⟨by omega,lt_succ_cases hx.2 h⟩
 case refine_12=>intro E0 hfn hp x hx hl; simp only [decide_eq_false_iff_not] at hl; exact (idxW_none (fun j hj=>hx.2 j (by omega))).symm
 all_goals ((repeat intro _) <;> (try simp only [Bool.cond_true_left,Bool.cond_false_right,Bool.not_not,Bool.not_eq_true',Bool.not_eq_false',Bool.or_eq_true,Bool.or_eq_false_iff,Bool.and_eq_true,decide_eq_true_eq,decide_eq_false_iff_not,inI,big] at *) <;> first | (exact rfl) | omega | (exact ⟨Nat.zero_le _,fun j hj=>absurd hj (Nat.not_lt_zero j)⟩) | (simp_all; done) | (simp_all; omega))
theorem wio125 (ws:List Int) (P:Int->Bool)
  (o0:∀ (E0:Env),fnokOf Try.prog 0 (fun (w:{ w:Int // w ∈ ws })=>[iv (Subtype.val w)]) (fun (w:{ w:Int // w ∈ ws })=>bv (P (Subtype.val w))) E0->ws.length<=65536 -> ∀ (i0:Env) (i1:List Value),Env.le E0 i0->i1.length=2->(∀ (k:Nat),Rel i0 true (List.getD [AV.vec 0,AV.fn 0] k AV.any) (i1.getD k undef))->fnokOf Try.prog 0 (fun (w:{ w:Int // w ∈ ws })=>[iv (Subtype.val w)]) (fun (w:{ w:Int // w ∈ ws })=>bv (P (Subtype.val w))) (Env.mk i0.1 i0.2 i0.3 fun (k:Nat) (u:Value) => ∃ (i:Nat),[AV.vec 0,AV.fn 0][i]? = some (AV.fn k)/\i1[i]? = some u))
  (o1:∀ (E0:Env),fnokOf Try.prog 0 (fun (w:{ w:Int // w ∈ ws })=>[iv (Subtype.val w)]) (fun (w:{ w:Int // w ∈ ws })=>bv (P (Subtype.val w))) E0->ws.length<=65536->decide (idxW ws P = -1)=true->ws.length=(delW ws P).length)
  (o2:∀ (E0:Env),fnokOf Try.prog 0 (fun (w:{ w:Int // w ∈ ws })=>[iv (Subtype.val w)]) (fun (w:{ w:Int // w ∈ ws })=>bv (P (Subtype.val w))) E0->ws.length<=65536->decide (idxW ws P = -1)=true -> ∀ (i6:Nat),i6 < (delW ws P).length -> [iv (ws.getD i6 0)] = [iv ((delW ws P).getD i6 0)])
  (o3:∀ (E0:Env),fnokOf Try.prog 0 (fun (w:{ w:Int // w ∈ ws })=>[iv (Subtype.val w)]) (fun (w:{ w:Int // w ∈ ws })=>bv (P (Subtype.val w))) E0->ws.length<=65536->decide (idxW ws P = -1)=false->inI (idxW ws P + 1))
  (o4:∀ (E0:Env),fnokOf Try.prog 0 (fun (w:{ w:Int // w ∈ ws })=>[iv (Subtype.val w)]) (fun (w:{ w:Int // w ∈ ws })=>bv (P (Subtype.val w))) E0->ws.length<=65536->decide (idxW ws P = -1)=false->idxW ws P=(↑((keptW ws P (Nat.succ (Nat.add (firstD ws P) 0))).length):Int))
  (o5:∀ (E0:Env),fnokOf Try.prog 0 (fun (w:{ w:Int // w ∈ ws })=>[iv (Subtype.val w)]) (fun (w:{ w:Int // w ∈ ws })=>bv (P (Subtype.val w))) E0->ws.length<=65536->decide (idxW ws P = -1)=false->idxW ws P + 1=(↑(Nat.succ (Nat.add (firstD ws P) 0)):Int))
  (o6:∀ (E0:Env),fnokOf Try.prog 0 (fun (w:{ w:Int // w ∈ ws })=>[iv (Subtype.val w)]) (fun (w:{ w:Int // w ∈ ws })=>bv (P (Subtype.val w))) E0->ws.length<=65536->decide (idxW ws P = -1)=false -> ∀ (i9:Nat),i9 < ws.length -> [iv (ws.getD i9 0)] = [iv (rowW ws P (Nat.succ (Nat.add (firstD ws P) 0)) i9)])
  (o7:∀ (E0:Env),fnokOf Try.prog 0 (fun (w:{ w:Int // w ∈ ws })=>[iv (Subtype.val w)]) (fun (w:{ w:Int // w ∈ ws })=>bv (P (Subtype.val w))) E0->ws.length<=65536->decide (idxW ws P = -1)=false->firstD ws P + 1<=Nat.succ (Nat.add (firstD ws P) 0)/\Nat.succ (Nat.add (firstD ws P) 0)<=ws.length)
  (o8:∀ (E0:Env),fnokOf Try.prog 0 (fun (w:{ w:Int // w ∈ ws })=>[iv (Subtype.val w)]) (fun (w:{ w:Int // w ∈ ws })=>bv (P (Subtype.val w))) E0->ws.length<=65536->decide (idxW ws P = -1)=false -> ∀ (x8:Nat),firstD ws P + 1<=x8/\x8<=ws.length->decide ((x8:Int) < (↑(ws.length):Int))=true->0<=(x8:Int))
  (o9:∀ (E0:Env),fnokOf Try.prog 0 (fun (w:{ w:Int // w ∈ ws })=>[iv (Subtype.val w)]) (fun (w:{ w:Int // w ∈ ws })=>bv (P (Subtype.val w))) E0->ws.length<=65536->decide (idxW ws P = -1)=false -> ∀ (x8:Nat),firstD ws P + 1<=x8/\x8<=ws.length->decide ((x8:Int) < (↑(ws.length):Int))=true->(x8:Int) < (↑(ws.length):Int))
  (o10:∀ (E0:Env),fnokOf Try.prog 0 (fun (w:{ w:Int // w ∈ ws })=>[iv (Subtype.val w)]) (fun (w:{ w:Int // w ∈ ws })=>bv (P (Subtype.val w))) E0->ws.length<=65536->decide (idxW ws P = -1)=false -> ∀ (x8:Nat),firstD ws P + 1<=x8/\x8<=ws.length->decide ((x8:Int) < (↑(ws.length):Int))=true->x8 < ws.length)
  (o11:∀ (E0:Env),fnokOf Try.prog 0 (fun (w:{ w:Int // w ∈ ws })=>[iv (Subtype.val w)]) (fun (w:{ w:Int // w ∈ ws })=>bv (P (Subtype.val w))) E0->ws.length<=65536->decide (idxW ws P = -1)=false -> ∀ (x8:Nat),firstD ws P + 1<=x8/\x8<=ws.length->decide ((x8:Int) < (↑(ws.length):Int))=true->rowW ws P x8 x8=ws.getD x8 0)
  (o12:∀ (E0:Env),fnokOf Try.prog 0 (fun (w:{ w:Int // w ∈ ws })=>[iv (Subtype.val w)]) (fun (w:{ w:Int // w ∈ ws })=>bv (P (Subtype.val w))) E0->ws.length<=65536->decide (idxW ws P = -1)=false -> ∀ (x8:Nat),firstD ws P + 1<=x8/\x8<=ws.length->decide ((x8:Int) < (↑(ws.length):Int))=true -> ∀ (i12:Value),E0.4 0 i12->FnOK Try.prog E0 i12 [iv (ws.getD x8 0)] (bv (P (ws.getD x8 0))))
  (o13:∀ (E0:Env),fnokOf Try.prog 0 (fun (w:{ w:Int // w ∈ ws })=>[iv (Subtype.val w)]) (fun (w:{ w:Int // w ∈ ws })=>bv (P (Subtype.val w))) E0->ws.length<=65536->decide (idxW ws P = -1)=false -> ∀ (x8:Nat),firstD ws P + 1<=x8/\x8<=ws.length->decide ((x8:Int) < (↑(ws.length):Int))=true->(!P (ws.getD x8 0))=true->0<=(↑((keptW ws P x8).length):Int))
  (o14:∀ (E0:Env),fnokOf Try.prog 0 (fun (w:{ w:Int // w ∈ ws })=>[iv (Subtype.val w)]) (fun (w:{ w:Int // w ∈ ws })=>bv (P (Subtype.val w))) E0->ws.length<=65536->decide (idxW ws P = -1)=false -> ∀ (x8:Nat),firstD ws P + 1<=x8/\x8<=ws.length->decide ((x8:Int) < (↑(ws.length):Int))=true->(!P (ws.getD x8 0))=true->(↑((keptW ws P x8).length):Int) < (↑(ws.length):Int))
  (o15:∀ (E0:Env),fnokOf Try.prog 0 (fun (w:{ w:Int // w ∈ ws })=>[iv (Subtype.val w)]) (fun (w:{ w:Int // w ∈ ws })=>bv (P (Subtype.val w))) E0->ws.length<=65536->decide (idxW ws P = -1)=false -> ∀ (x8:Nat),firstD ws P + 1<=x8/\x8<=ws.length->decide ((x8:Int) < (↑(ws.length):Int))=true->(!P (ws.getD x8 0))=true->(keptW ws P x8).length < ws.length)
  (o16:∀ (E0:Env),fnokOf Try.prog 0 (fun (w:{ w:Int // w ∈ ws })=>[iv (Subtype.val w)]) (fun (w:{ w:Int // w ∈ ws })=>bv (P (Subtype.val w))) E0->ws.length<=65536->decide (idxW ws P = -1)=false -> ∀ (x8:Nat),firstD ws P + 1<=x8/\x8<=ws.length->decide ((x8:Int) < (↑(ws.length):Int))=true->(!P (ws.getD x8 0))=true->inI ((↑((keptW ws P x8).length):Int) + 1))
  (o17:∀ (E0:Env),fnokOf Try.prog 0 (fun (w:{ w:Int // w ∈ ws })=>[iv (Subtype.val w)]) (fun (w:{ w:Int // w ∈ ws })=>bv (P (Subtype.val w))) E0->ws.length<=65536->decide (idxW ws P = -1)=false -> ∀ (x8:Nat),firstD ws P + 1<=x8/\x8<=ws.length->decide ((x8:Int) < (↑(ws.length):Int))=true->(!P (ws.getD x8 0))=true->inI ((x8:Int) + 1))
  (o18:∀ (E0:Env),fnokOf Try.prog 0 (fun (w:{ w:Int // w ∈ ws })=>[iv (Subtype.val w)]) (fun (w:{ w:Int // w ∈ ws })=>bv (P (Subtype.val w))) E0->ws.length<=65536->decide (idxW ws P = -1)=false -> ∀ (x8:Nat),firstD ws P + 1<=x8/\x8<=ws.length->decide ((x8:Int) < (↑(ws.length):Int))=true->(!P (ws.getD x8 0))=true->(↑((keptW ws P x8).length):Int) + 1=(↑((keptW ws P (x8 + 1)).length):Int))
  (o19:∀ (E0:Env),fnokOf Try.prog 0 (fun (w:{ w:Int // w ∈ ws })=>[iv (Subtype.val w)]) (fun (w:{ w:Int // w ∈ ws })=>bv (P (Subtype.val w))) E0->ws.length<=65536->decide (idxW ws P = -1)=false -> ∀ (x8:Nat),firstD ws P + 1<=x8/\x8<=ws.length->decide ((x8:Int) < (↑(ws.length):Int))=true->(!P (ws.getD x8 0))=true->(x8:Int) + 1=(↑(x8 + 1):Int))
  (o20:∀ (E0:Env),fnokOf Try.prog 0 (fun (w:{ w:Int // w ∈ ws })=>[iv (Subtype.val w)]) (fun (w:{ w:Int // w ∈ ws })=>bv (P (Subtype.val w))) E0->ws.length<=65536->decide (idxW ws P = -1)=false -> ∀ (x8:Nat),firstD ws P + 1<=x8/\x8<=ws.length->decide ((x8:Int) < (↑(ws.length):Int))=true->(!P (ws.getD x8 0))=true -> ∀ (i15:Nat),i15 < ws.length->Decidable.rec (fun (h:¬i15=(keptW ws P x8).length)=>[iv (rowW ws P x8 i15)]) (fun (h:i15=(keptW ws P x8).length)=>[iv (rowW ws P x8 x8)] ++ []) (instDecidableEqNat i15 (keptW ws P x8).length) = [iv (rowW ws P (x8 + 1) i15)])
  (o21:∀ (E0:Env),fnokOf Try.prog 0 (fun (w:{ w:Int // w ∈ ws })=>[iv (Subtype.val w)]) (fun (w:{ w:Int // w ∈ ws })=>bv (P (Subtype.val w))) E0->ws.length<=65536->decide (idxW ws P = -1)=false -> ∀ (x8:Nat),firstD ws P + 1<=x8/\x8<=ws.length->decide ((x8:Int) < (↑(ws.length):Int))=true->(!P (ws.getD x8 0))=true->firstD ws P + 1<=x8 + 1/\x8 + 1<=ws.length)
  (o22:∀ (E0:Env),fnokOf Try.prog 0 (fun (w:{ w:Int // w ∈ ws })=>[iv (Subtype.val w)]) (fun (w:{ w:Int // w ∈ ws })=>bv (P (Subtype.val w))) E0->ws.length<=65536->decide (idxW ws P = -1)=false -> ∀ (x8:Nat),firstD ws P + 1<=x8/\x8<=ws.length->decide ((x8:Int) < (↑(ws.length):Int))=true->(!P (ws.getD x8 0))=true->ws.length - (x8 + 1) < ws.length - x8)
  (o23:∀ (E0:Env),fnokOf Try.prog 0 (fun (w:{ w:Int // w ∈ ws })=>[iv (Subtype.val w)]) (fun (w:{ w:Int // w ∈ ws })=>bv (P (Subtype.val w))) E0->ws.length<=65536->decide (idxW ws P = -1)=false -> ∀ (x8:Nat),firstD ws P + 1<=x8/\x8<=ws.length->decide ((x8:Int) < (↑(ws.length):Int))=true->(!P (ws.getD x8 0))=false->inI ((x8:Int) + 1))
  (o24:∀ (E0:Env),fnokOf Try.prog 0 (fun (w:{ w:Int // w ∈ ws })=>[iv (Subtype.val w)]) (fun (w:{ w:Int // w ∈ ws })=>bv (P (Subtype.val w))) E0->ws.length<=65536->decide (idxW ws P = -1)=false -> ∀ (x8:Nat),firstD ws P + 1<=x8/\x8<=ws.length->decide ((x8:Int) < (↑(ws.length):Int))=true->(!P (ws.getD x8 0))=false->(↑((keptW ws P x8).length):Int)=(↑((keptW ws P (x8 + 1)).length):Int))
  (o25:∀ (E0:Env),fnokOf Try.prog 0 (fun (w:{ w:Int // w ∈ ws })=>[iv (Subtype.val w)]) (fun (w:{ w:Int // w ∈ ws })=>bv (P (Subtype.val w))) E0->ws.length<=65536->decide (idxW ws P = -1)=false -> ∀ (x8:Nat),firstD ws P + 1<=x8/\x8<=ws.length->decide ((x8:Int) < (↑(ws.length):Int))=true->(!P (ws.getD x8 0))=false->(x8:Int) + 1=(↑(x8 + 1):Int))
  (o26:∀ (E0:Env),fnokOf Try.prog 0 (fun (w:{ w:Int // w ∈ ws })=>[iv (Subtype.val w)]) (fun (w:{ w:Int // w ∈ ws })=>bv (P (Subtype.val w))) E0->ws.length<=65536->decide (idxW ws P = -1)=false -> ∀ (x8:Nat),firstD ws P + 1<=x8/\x8<=ws.length->decide ((x8:Int) < (↑(ws.length):Int))=true->(!P (ws.getD x8 0))=false -> ∀ (i17:Nat),i17 < ws.length -> [iv (rowW ws P x8 i17)] = [iv (rowW ws P (x8 + 1) i17)])
  (o27:∀ (E0:Env),fnokOf Try.prog 0 (fun (w:{ w:Int // w ∈ ws })=>[iv (Subtype.val w)]) (fun (w:{ w:Int // w ∈ ws })=>bv (P (Subtype.val w))) E0->ws.length<=65536->decide (idxW ws P = -1)=false -> ∀ (x8:Nat),firstD ws P + 1<=x8/\x8<=ws.length->decide ((x8:Int) < (↑(ws.length):Int))=true->(!P (ws.getD x8 0))=false->firstD ws P + 1<=x8 + 1/\x8 + 1<=ws.length)
  (o28:∀ (E0:Env),fnokOf Try.prog 0 (fun (w:{ w:Int // w ∈ ws })=>[iv (Subtype.val w)]) (fun (w:{ w:Int // w ∈ ws })=>bv (P (Subtype.val w))) E0->ws.length<=65536->decide (idxW ws P = -1)=false -> ∀ (x8:Nat),firstD ws P + 1<=x8/\x8<=ws.length->decide ((x8:Int) < (↑(ws.length):Int))=true->(!P (ws.getD x8 0))=false->ws.length - (x8 + 1) < ws.length - x8)
  (o29:∀ (E0:Env),fnokOf Try.prog 0 (fun (w:{ w:Int // w ∈ ws })=>[iv (Subtype.val w)]) (fun (w:{ w:Int // w ∈ ws })=>bv (P (Subtype.val w))) E0->ws.length<=65536->decide (idxW ws P = -1)=false -> ∀ (x8:Nat),firstD ws P + 1<=x8/\x8<=ws.length->decide ((x8:Int) < (↑(ws.length):Int))=false->0<=(↑((keptW ws P x8).length):Int))
  (o30:∀ (E0:Env),fnokOf Try.prog 0 (fun (w:{ w:Int // w ∈ ws })=>[iv (Subtype.val w)]) (fun (w:{ w:Int // w ∈ ws })=>bv (P (Subtype.val w))) E0->ws.length<=65536->decide (idxW ws P = -1)=false -> ∀ (x8:Nat),firstD ws P + 1<=x8/\x8<=ws.length->decide ((x8:Int) < (↑(ws.length):Int))=false->(↑((keptW ws P x8).length):Int) < (↑(ws.length):Int))
  (o31:∀ (E0:Env),fnokOf Try.prog 0 (fun (w:{ w:Int // w ∈ ws })=>[iv (Subtype.val w)]) (fun (w:{ w:Int // w ∈ ws })=>bv (P (Subtype.val w))) E0->ws.length<=65536->decide (idxW ws P = -1)=false -> ∀ (x8:Nat),firstD ws P + 1<=x8/\x8<=ws.length->decide ((x8:Int) < (↑(ws.length):Int))=false->(keptW ws P x8).length + (ws.length - (keptW ws P x8).length)=ws.length)
  (o32:∀ (E0:Env),fnokOf Try.prog 0 (fun (w:{ w:Int // w ∈ ws })=>[iv (Subtype.val w)]) (fun (w:{ w:Int // w ∈ ws })=>bv (P (Subtype.val w))) E0->ws.length<=65536->decide (idxW ws P = -1)=false -> ∀ (x8:Nat),firstD ws P + 1<=x8/\x8<=ws.length->decide ((x8:Int) < (↑(ws.length):Int))=false->0 < ws.length - (keptW ws P x8).length)
  (o33:∀ (E0:Env),fnokOf Try.prog 0 (fun (w:{ w:Int // w ∈ ws })=>[iv (Subtype.val w)]) (fun (w:{ w:Int // w ∈ ws })=>bv (P (Subtype.val w))) E0->ws.length<=65536->decide (idxW ws P = -1)=false -> ∀ (x8:Nat),firstD ws P + 1<=x8/\x8<=ws.length->decide ((x8:Int) < (↑(ws.length):Int))=false -> ∀ (i19:Nat),i19 < ws.length->Decidable.rec (fun (h:¬i19 < (keptW ws P x8).length)=>[iv 0]) (fun (h:i19 < (keptW ws P x8).length)=>[iv (rowW ws P x8 i19)]) (Nat.decLt i19 (keptW ws P x8).length)=endA ws P i19)
  (o34:∀ (E0:Env),fnokOf Try.prog 0 (fun (w:{ w:Int // w ∈ ws })=>[iv (Subtype.val w)]) (fun (w:{ w:Int // w ∈ ws })=>bv (P (Subtype.val w))) E0->ws.length<=65536->decide (idxW ws P = -1)=false -> ∀ (x8:Nat),firstD ws P + 1<=x8/\x8<=ws.length->decide ((x8:Int) < (↑(ws.length):Int))=false->0<=(↑((keptW ws P x8).length):Int))
  (o35:∀ (E0:Env),fnokOf Try.prog 0 (fun (w:{ w:Int // w ∈ ws })=>[iv (Subtype.val w)]) (fun (w:{ w:Int // w ∈ ws })=>bv (P (Subtype.val w))) E0->ws.length<=65536->decide (idxW ws P = -1)=false -> ∀ (x8:Nat),firstD ws P + 1<=x8/\x8<=ws.length->decide ((x8:Int) < (↑(ws.length):Int))=false->(↑((keptW ws P x8).length):Int)<=(↑(ws.length):Int))
  (o36:∀ (E0:Env),fnokOf Try.prog 0 (fun (w:{ w:Int // w ∈ ws })=>[iv (Subtype.val w)]) (fun (w:{ w:Int // w ∈ ws })=>bv (P (Subtype.val w))) E0->ws.length<=65536->decide (idxW ws P = -1)=false -> ∀ (x8:Nat),firstD ws P + 1<=x8/\x8<=ws.length->decide ((x8:Int) < (↑(ws.length):Int))=false->(keptW ws P x8).length=(delW ws P).length)
  (o37:∀ (E0:Env),fnokOf Try.prog 0 (fun (w:{ w:Int // w ∈ ws })=>[iv (Subtype.val w)]) (fun (w:{ w:Int // w ∈ ws })=>bv (P (Subtype.val w))) E0->ws.length<=65536->decide (idxW ws P = -1)=false -> ∀ (x8:Nat),firstD ws P + 1<=x8/\x8<=ws.length->decide ((x8:Int) < (↑(ws.length):Int))=false -> ∀ (i23:Nat),i23 < (delW ws P).length->endA ws P i23 = [iv ((delW ws P).getD i23 0)])
  (l:List (Nat × Nat)) (hl:l.map (·.1) = [0]) (hnd:(l.map (·.2)).Nodup) :
  Triple Try.prog 125 (IoSpec.at (io125 ws P) l):=by
 refine triple_io Try.func125 rfl Try.call125 T0_ok (io125 ws P) 1 l (by rw [hl]; kernel_rfl) hnd (Nat.le_of_ble_eq_true (by kernel_rfl)) fnokOf_congr ?_
 intro hpre C hC hfn hE
 obtain ⟨P,w0,E0,av,hA,ro,df⟩:=C
 obtain ⟨rfl,rfl,rfl⟩:=hC
 refine swp_seq ?_
 refine zR [0,1] [0] (Ak 1 tv) ?_
 refine swp_seq ?_
 refine zC ([(2,CallSpec.eq (c125a ws P) [true,true])]) [0,1,5] [0] (Ak 2 (An (An (An (zr (AV.vec 0)) (An (zr (AV.fn 0)) tv)) (An (t148 (0) (ws) (P)) (An hpre (An (An (zr (some (OB.vec 3 1 ws.length fun (i:Nat)=>[iv (ws.getD i 0)]))) tv) (fun (i0:Env)=>(fun (i1:List Value)=>(fun (y2:Env.le E0 i0)=>(fun (y3:i1.length=2)=>(fun (y4:∀ (k:Nat),Rel i0 true (List.getD [AV.vec 0,AV.fn 0] k AV.any) (i1.getD k undef))=>(o0 E0 hfn hpre i0 i1 y2 y3 y4)))))))))) (Ak 1 tv))) ?_
 refine swp_seq ?_
 refine swp_seq ?_
 refine zR [0,1,5,12] [0] (Ak 2 tv) ?_
 refine zI (decide (idxW ws P = -1)) (fun y5 => ?_) (fun y5 => ?_)
 ·refine swp_seq ?_
  refine zR [4] [0] (Ak 2 tv) ?_
  refine swp_ret ?_
  exact zO (ASt.mk [(4,aInts (delW ws P))] [] 100) (zEn 1 hE [0] [] [] [] (An (An (An (zr 1) (An (o1 E0 hfn hpre y5) (fun (i6:Nat)=>(fun (y7:i6 < (delW ws P).length)=>(o2 E0 hfn hpre y5 i6 y7))))) tv) (Ak 1 (An (zr true) (zr true))))) (An (Ak 1 tv) (An (zr (aInts (delW ws P))) tv))
 ·refine swp_skip ?_
  refine swp_seq ?_
  refine swp_seq ?_
  refine zR [0,1,5,6] [0] (Ak 1 (An (o3 E0 hfn hpre y5) (Ak 1 tv))) ?_
  refine swp_block ?_
  refine zL (Hint.ann (h125 ws P) [(0,AV.vec 0),(1,AV.fn 0)] [] 10081) (zEn 1 hE [] [(0,.same 0)] [1] [] (An (An (zr (some (Src.same 0))) (An (An (zr (AV.fn 0)) (zr true)) (An (An (ci (o4 E0 hfn hpre y5)) (zr nilN)) (An (An (ci (o5 E0 hfn hpre y5)) (zr nilN)) tv)))) (An (An (An (zr 3) (An (zr 1) (An (zr ws.length) (fun (i9:Nat)=>(fun (y10:i9 < ws.length)=>(o6 E0 hfn hpre y5 i9 y10)))))) tv) (An (zr true) (zr true))))) (o7 E0 hfn hpre y5) (fun (x8:Nat) hx8 => ?_)
  refine swp_seq ?_
  refine swp_seq ?_
  refine zR [0,1,5,6,19] [0] (Ak 4 tv) ?_
  refine zI (decide ((x8:Int) < (↑(ws.length):Int))) (fun y11 => ?_) (fun y11 => ?_)
  ·refine swp_skip ?_
   refine swp_seq ?_
   refine swp_block ?_
   refine swp_seq ?_
   refine zR [0,1,5,6,7] [0] (Ak 2 (An (An (o8 E0 hfn hpre y5 x8 hx8 y11) (o9 E0 hfn hpre y5 x8 hx8 y11)) (An (An (o10 E0 hfn hpre y5 x8 hx8 y11) tv) (Ak 1 tv)))) ?_
   refine swp_seq ?_
   refine zC ([(2,CallSpec.eq (c125b ws P x8) [false])]) [0,1,5,6,7,29] [0] (Ak 2 (An (An (An (ci (o11 E0 hfn hpre y5 x8 hx8 y11)) tv) (fun (i12:Value)=>(fun (y13:E0.4 0 i12)=>(o12 E0 hfn hpre y5 x8 hx8 y11 i12 y13)))) (Ak 1 tv))) ?_
   refine zI (!P (ws.getD x8 0)) (fun y14 => ?_) (fun y14 => ?_)
   ·refine swp_seq ?_
    refine zR [0,1,5,6] [0] (Ak 3 (An (An (o13 E0 hfn hpre y5 x8 hx8 y11 y14) (o14 E0 hfn hpre y5 x8 hx8 y11 y14)) (An (An (o15 E0 hfn hpre y5 x8 hx8 y11 y14) tv) tv))) ?_
    refine zR [0,1,5,6] [0] (Ak 1 (An (o16 E0 hfn hpre y5 x8 hx8 y11 y14) (Ak 1 tv))) ?_
    refine zR [0,1,5,6] [0] (Ak 1 (An (o17 E0 hfn hpre y5 x8 hx8 y11 y14) (Ak 1 tv))) ?_
    exact zn (zEn 1 hE [] [(0,.same 0)] [1] [] (An (An (zr (some (Src.same 0))) (An (An (zr (AV.fn 0)) (zr true)) (An (An (ci (o18 E0 hfn hpre y5 x8 hx8 y11 y14)) (zr nilN)) (An (An (ci (o19 E0 hfn hpre y5 x8 hx8 y11 y14)) (zr nilN)) tv)))) (An (An (An (zr 3) (An (zr 1) (An (zr ws.length) (fun (i15:Nat)=>(fun (y16:i15 < ws.length)=>(o20 E0 hfn hpre y5 x8 hx8 y11 y14 i15 y16)))))) tv) (An (zr true) (zr true))))) (o21 E0 hfn hpre y5 x8 hx8 y11 y14) (o22 E0 hfn hpre y5 x8 hx8 y11 y14)
   ·refine swp_skip ?_
    refine zR [0,1,5,6] [0] (Ak 1 (An (o23 E0 hfn hpre y5 x8 hx8 y11 y14) (Ak 1 tv))) ?_
    exact zn (zEn 1 hE [] [(0,.same 0)] [1] [] (An (An (zr (some (Src.same 0))) (An (An (zr (AV.fn 0)) (zr true)) (An (An (ci (o24 E0 hfn hpre y5 x8 hx8 y11 y14)) (zr nilN)) (An (An (ci (o25 E0 hfn hpre y5 x8 hx8 y11 y14)) (zr nilN)) tv)))) (An (An (An (zr 3) (An (zr 1) (An (zr ws.length) (fun (i17:Nat)=>(fun (y18:i17 < ws.length)=>(o26 E0 hfn hpre y5 x8 hx8 y11 y14 i17 y18)))))) tv) (An (zr true) (zr true))))) (o27 E0 hfn hpre y5 x8 hx8 y11 y14) (o28 E0 hfn hpre y5 x8 hx8 y11 y14)
  ·refine swp_exit ?_
   refine swp_seq ?_
   refine zR [0,5] [0] (Ak 2 (An (An (o29 E0 hfn hpre y5 x8 hx8 y11) (o30 E0 hfn hpre y5 x8 hx8 y11)) (An (An (o31 E0 hfn hpre y5 x8 hx8 y11) (o32 E0 hfn hpre y5 x8 hx8 y11)) tv))) ?_
   refine swp_seq ?_
   refine swp_ent (zEn (st2:=ASt.mk [(0,AV.vec 0),(5,iv (↑((keptW ws P x8).length):Int))] [(0,OB.vec 3 1 ws.length fun (q:Nat)=>endA ws P q)] 10145) 1 hE [] [(0,.same 0)] [5] [] (An (An (zr (some (Src.same 0))) (An (An (zr (iv (↑((keptW ws P x8).length):Int))) (zr true)) tv)) (An (An (An (zr 3) (An (zr 1) (An (zr ws.length) (fun (i19:Nat)=>(fun (y20:i19 < ws.length)=>(o33 E0 hfn hpre y5 x8 hx8 y11 i19 y20)))))) tv) (An (zr true) (zr true))))) ?_
   refine swp_ent (zEn (st2:=ASt.mk [(0,AV.sl 1 ws.length fun (q:Nat)=>endA ws P q),(5,iv (↑((keptW ws P x8).length):Int))] [] 10145) 1 hE [0] [] [5] [] (An (An (An (zr 1) (An (zr ws.length) (fun (i21:Nat)=>(fun (y22:i21 < ws.length)=>(zr (endA ws P i21)))))) (An (An (zr (iv (↑((keptW ws P x8).length):Int))) (zr true)) tv)) (Ak 1 (An (zr true) (zr true))))) ?_
   refine zR [4] [] (Ak 2 (An (An (o34 E0 hfn hpre y5 x8 hx8 y11) (o35 E0 hfn hpre y5 x8 hx8 y11)) (Ak 1 tv))) ?_
   refine swp_ret ?_
   exact zO (ASt.mk [(4,aInts (delW ws P))] [] 100) (zEn 1 hE [] [] [] [] (An (An (An (zr 1) (An (o36 E0 hfn hpre y5 x8 hx8 y11) (fun (i23:Nat)=>(fun (y24:i23 < (delW ws P).length)=>(o37 E0 hfn hpre y5 x8 hx8 y11 i23 y24))))) tv) (Ak 1 (An (zr true) (zr true))))) (An (Ak 1 tv) (An (zr (aInts (delW ws P))) tv))
theorem rec_ei {α:Type} {i j:Nat} {a:¬ i=j->α} {b:i=j->α} {c:α} (h1:∀ h,a h=c) (h2:∀ h,b h=c):(Decidable.rec a b (instDecidableEqNat i j):α)=c:=by
 cases instDecidableEqNat i j with
 | isTrue h=>exact h2 h
 | isFalse h=>exact h1 h
theorem rec_lt {α:Type} {i j:Nat} {a:¬ i < j->α} {b:i < j->α} {c:α} (h1:∀ h,a h=c) (h2:∀ h,b h=c):(Decidable.rec a b (Nat.decLt i j):α)=c:=by
 cases Nat.decLt i j with
 | isTrue h=>exact h2 h
 | isFalse h=>exact h1 h
theorem t125 (b:Nat) (ws:List Int) (P:Int->Bool):Triple Try.prog 125 (s125 b ws P):=by
 apply wio125 ws P (l:=[(0,b)]) (hl:=rfl) (hnd:=by simp)
 all_goals (first | ((repeat intro _) <;> (try simp only [Bool.cond_true_left,Bool.cond_false_right,Bool.not_not,Bool.not_eq_true',Bool.not_eq_false',Bool.or_eq_true,Bool.or_eq_false_iff,Bool.and_eq_true,decide_eq_true_eq,decide_eq_false_iff_not,inI,big] at *) <;> first | (exact rfl) | omega | (exact ⟨Nat.zero_le _,fun j hj=>absurd hj (Nat.not_lt_zero j)⟩) | (simp_all; done) | (simp_all; omega)) | skip)
 case o0 =>
  intro E0 hfn hp E us le hl hr
  refine fnok_pass 1 (fun j' h => ?_) rfl hfn E us le hl hr
  match j',h with
  | 0,h=>cases h
  | 1,_=>rfl
  | n + 2,h=>simp at h
 case o1=>intro E0 _ hp h; rw [del_none h]
 case o2=>intro E0 _ hp h i _; rw [del_none h]
 all_goals (intro E0 hfn hp h; obtain ⟨f1,f2,f3,f4⟩:=first_spec h)
 case o3=>exact ⟨by omega,by omega⟩
 case o4=>show idxW ws P=((keptW ws P (firstD ws P + 1)).length:Int); rw [(kept_first h).2]; exact f1
 case o5=>show idxW ws P + 1=((firstD ws P + 1:Nat):Int); omega
 case o6=>intro i _; show _ = [iv (rowW ws P (firstD ws P + 1) i)]; rw [rowW_first h]
 case o7=>show firstD ws P + 1<=firstD ws P + 1/\firstD ws P + 1<=ws.length; omega
 all_goals (intro x hx hl; have hk:=kept_lt h x hx.1 hx.2; simp only [decide_eq_true_eq,decide_eq_false_iff_not] at hl)
 case o11=>rw [rowW_self]
 case o12=>intro u hu; exact hfn u hu ⟨_,getD_mem ws 0 (by omega)⟩
 case o14 | o15=>intro _; omega
 case o16=>intro _; exact ⟨by omega,by omega⟩
 case o18=>intro hn; rw [keptW_f (by omega) (by simpa using hn),List.length_append]; rfl
 case o20 =>
  intro hn i hi
  rw [rowW_f (by omega) (by simpa using hn)]
  exact rec_ei (fun h=>by rw [if_neg h]) (fun h=>by rw [if_pos h,rowW_self]; rfl)
 case o24=>intro hn; rw [keptW_t (by omega) (by simpa using hn)]
 case o26=>intro hn i hi; rw [rowW_t (by omega) (by simpa using hn)]
 all_goals (have e:x=ws.length:=by omega)
 case o30 | o31 | o32 | o35=>omega
 case o33 =>
  have hkf:keptW ws P x=delW ws P:=keptW_full (by omega)
  intro i hi
  rw [hkf]
  refine rec_lt (fun h=>(endA_ge h).symm) (fun h => ?_)
  rw [endA_lt h]
  unfold rowW
  rw [hkf,if_pos h]
 case o36=>rw [keptW_full (by omega)]
 case o37=>intro i hi; exact endA_lt hi
theorem w127 (p:Int) (w:Int)
  (o0:0<=p/\p<=62/\0<=w/\w<=1000->p<=62)
  (o1:0<=p/\p<=62/\0<=w/\w<=1000->0<=w / 2 ^ p.toNat)
  (o2:0<=p/\p<=62/\0<=w/\w<=1000->inI (w / 2 ^ p.toNat))
  (o3:0<=p/\p<=62/\0<=w/\w<=1000->decide (w / 2 ^ p.toNat % 2=1)=bitP w p) :
  Triple Try.prog 127 (s127 p w):=by
 refine triple_of Try.func127 rfl Try.call127 T0_ok _ rfl rfl rfl rfl (Nat.le_of_ble_eq_true (by kernel_rfl)) (fun _ _ _ _ h=>h) ?_
 intro hpre C hC _ hE
 obtain ⟨P,w0,E0,av,hA,ro,df⟩:=C
 obtain ⟨rfl,rfl,rfl⟩:=hC
 refine swp_seq ?_
 refine zR [0,1] [] (Ak 1 tv) ?_
 refine swp_seq ?_
 refine zR [3] [] (Ak 2 (An (An hpre.1 (o0 hpre)) (An (An (o1 hpre) (An (zr (1:Int)) (o2 hpre))) (Ak 2 tv)))) ?_
 refine swp_ret ?_
 exact zT [] (An (Ak 1 tv) (An (An (cb (o3 hpre)) (zr nilN)) (An (zr true) (An (zr true) (zr true)))))
theorem t127 (p w:Int):Triple Try.prog 127 (s127 p w):=by
 apply w127
 case o1=>intro h; exact Int.ediv_nonneg h.2.2.1 (Int.le_of_lt (Int.pow_pos (by omega)))
 case o2=>intro h; exact inI_div2 h.2.2.1 h.2.2.2
 all_goals (try ((repeat intro _) <;> (try simp only [Bool.cond_true_left,Bool.cond_false_right,Bool.not_not,Bool.not_eq_true',Bool.not_eq_false',Bool.or_eq_true,Bool.or_eq_false_iff,Bool.and_eq_true,decide_eq_true_eq,decide_eq_false_iff_not,inI,big] at *) <;> first | (exact rfl) | omega | (exact ⟨Nat.zero_le _,fun j hj=>absurd hj (Nat.not_lt_zero j)⟩) | (simp_all; done) | (simp_all; omega)))
end Go.Ab
namespace Go.Sh
open Go.Ab
def prodL:List Int->Nat
 | []=>1
 | a :: ws=>(a.toNat + 1) * prodL ws
def setN:List Int->Nat->List Int
 | [],_=>[]
 | _ :: ws,i=>((i / prodL ws:Nat):Int) :: setN ws (i % prodL ws)
def restL (left set:List Int):List Int:=(List.range left.length).map fun q=>left.getD q 0 - set.getD q 0
abbrev Lay:=Option (List (List Int) × Int)
def sumTo (set:List Int) (n:Nat):Int:=(List.range n).foldl (fun a i=>a + set.getD i 0) 0
def sumS (set:List Int):Int:=sumTo set set.length
def layS (b:Lay):List (List Int):=match b with | some x=>x.1 | none=>[]
def layM (b:Lay):Int:=match b with | some x=>x.2 | none=>0
def betterL (m:Int) (b:Lay):Bool:=match b with | none=>true | some x=>decide (m < x.2)
def stepL (f:Frm) (r:Span) (g:List Int->Lay) (left:List Int) (b:Lay) (i:Nat):Lay :=
 if within (pointsP f (setN left i)) r.lo r.hi then
  match g (restL left (setN left i)) with
  | none=>b
  | some x=>if betterL (sumS (setN left i) + x.2) b then some (setN left i :: x.1,sumS (setN left i) + x.2) else b
 else b
def lockP (f:Frm):List Span->List Int->Lay
 | [],_=>some ([],0)
 | r :: rs,left=>(List.range (prodL left)).foldl (stepL f r (lockP f rs) left) none
def bestP (f:Frm) (rooms:List Span) (left:List Int) (n:Nat):Lay:=(List.range n).foldl (stepL f (rooms.getD 0 ⟨0,0⟩) (lockP f (rooms.drop 1)) left) none
theorem lock_best {f:Frm} {rooms:List Span} {left:List Int} (h:rooms.length ≠ 0):lockP f rooms left=bestP f rooms left (prodL left):=by
 cases rooms with
 | nil=>exact absurd rfl h
 | cons r rs=>rfl
theorem best_succ (f:Frm) (rooms:List Span) (left:List Int) (n:Nat):bestP f rooms left (n + 1)=stepL f (rooms.getD 0 ⟨0,0⟩) (lockP f (rooms.drop 1)) left (bestP f rooms left n) n:=by
 unfold bestP; rw [List.range_succ,List.foldl_append]; rfl
theorem prodL_pos:∀ left:List Int,0 < prodL left
 | []=>Nat.one_pos
 | _ :: ws=>Nat.mul_pos (Nat.succ_pos _) (prodL_pos ws)
theorem setN_len:∀ (left:List Int) (i:Nat),(setN left i).length=left.length
 | [],_=>rfl
 | _ :: ws,i=>by rw [setN,List.length_cons,setN_len ws,List.length_cons]
theorem setN_zero:∀ (left:List Int) (q:Nat),(setN left 0).getD q 0=0
 | [],q=>by simp [setN]
 | _ :: ws,q=>by
  rw [setN,Nat.zero_div,Nat.zero_mod]
  cases q with
  | zero=>rfl
  | succ q=>exact setN_zero ws q
theorem setN_in:∀ {left:List Int},(∀ q,q < left.length->0<=left.getD q 0) -> ∀ {i:Nat},i < prodL left -> ∀ q,q < left.length->0<=(setN left i).getD q 0/\(setN left i).getD q 0<=left.getD q 0:=by
 intro left
 induction left with
 | nil=>intro _ i _ q hq; exact absurd hq (Nat.not_lt_zero _)
 | cons a ws ih =>
  intro h i hi q hq
  rw [setN]
  cases q with
  | zero =>
   have h0:0<=a:=h 0 (Nat.succ_pos _)
   have h1:i / prodL ws < a.toNat + 1:=Nat.div_lt_of_lt_mul (by rw [Nat.mul_comm]; exact hi)
   show 0<=((i / prodL ws:Nat):Int)/\((i / prodL ws:Nat):Int)<=a
   generalize i / prodL ws=d at h1 ⊢
   constructor <;> omega
  | succ q=>exact ih (fun q hq=>h (q + 1) (Nat.succ_lt_succ hq)) (Nat.mod_lt _ (prodL_pos ws)) q (Nat.lt_of_succ_lt_succ hq)
theorem setN_full:∀ {left:List Int},(∀ q,q < left.length->0<=left.getD q 0) -> ∀ {i:Nat},i < prodL left->(∀ q,q < left.length->(setN left i).getD q 0=left.getD q 0)->i + 1=prodL left:=by
 intro left
 induction left with
 | nil=>intro _ i hi _; have:i < 1:=hi; show i + 1=1; omega
 | cons a ws ih =>
  intro h i hi hf
  have h0:0<=a:=h 0 (Nat.succ_pos _)
  have h1:((i / prodL ws:Nat):Int)=a:=hf 0 (Nat.succ_pos _)
  have h2:=ih (fun q hq=>h (q + 1) (Nat.succ_lt_succ hq)) (Nat.mod_lt i (prodL_pos ws)) (fun q hq=>hf (q + 1) (Nat.succ_lt_succ hq))
  have h3:=Nat.div_add_mod i (prodL ws)
  have h4:i / prodL ws=a.toNat:=by omega
  show i + 1=(a.toNat + 1) * prodL ws
  rw [Nat.add_mul,Nat.one_mul,← h4,Nat.mul_comm]; omega
theorem setN_next:∀ {left:List Int},(∀ q,q < left.length->0<=left.getD q 0) -> ∀ {i:Nat},i < prodL left -> ∀ {k:Nat},k < left.length->(∀ q,k < q->q < left.length->(setN left i).getD q 0=left.getD q 0) →
  (setN left i).getD k 0 ≠ left.getD k 0->i + 1 < prodL left /\ ∀ q,q < left.length->(setN left (i + 1)).getD q 0=if q=k then (setN left i).getD q 0 + 1 else if q < k then (setN left i).getD q 0 else 0:=by
 intro left
 induction left with
 | nil=>intro _ i _ k hk; exact absurd hk (Nat.not_lt_zero _)
 | cons a ws ih =>
  intro h i hi k hk hf hn
  have h0:0<=a:=h 0 (Nat.succ_pos _)
  have hp:=prodL_pos ws
  have hm:=Nat.mod_lt i hp
  have h3:=Nat.div_add_mod i (prodL ws)
  have hi':i < (a.toNat + 1) * prodL ws:=hi
  have h1:i / prodL ws < a.toNat + 1:=Nat.div_lt_of_lt_mul (by rw [Nat.mul_comm]; exact hi)
  have h':∀ q,q < ws.length->0<=ws.getD q 0:=fun q hq=>h (q + 1) (Nat.succ_lt_succ hq)
  cases k with
  | zero =>
   have h2:=setN_full h' hm (fun q hq=>hf (q + 1) (Nat.succ_pos _) (Nat.succ_lt_succ hq))
   have hn':((i / prodL ws:Nat):Int) ≠ a:=hn
   have e1:i + 1=prodL ws * (i / prodL ws + 1):=by rw [Nat.mul_add,Nat.mul_one]; omega
   have e2:(i + 1) / prodL ws=i / prodL ws + 1:=by rw [e1,Nat.mul_div_cancel_left _ hp]
   have e3:(i + 1) % prodL ws=0:=by rw [e1,Nat.mul_mod_right]
   refine ⟨?_,fun q hq => ?_⟩
   ·show i + 1 < (a.toNat + 1) * prodL ws
    rw [e1,Nat.mul_comm]
    exact Nat.mul_lt_mul_of_pos_right (by omega) hp
   ·rw [setN,setN,e2,e3]
    cases q with
    | zero=>rw [if_pos rfl]; show ((i / prodL ws + 1:Nat):Int)=((i / prodL ws:Nat):Int) + 1; omega
    | succ q=>rw [if_neg (by omega),if_neg (by omega)]; exact setN_zero ws q
  | succ k =>
   obtain ⟨g1,g2⟩:=ih h' hm (Nat.lt_of_succ_lt_succ hk) (fun q hq hl=>hf (q + 1) (Nat.succ_lt_succ hq) (Nat.succ_lt_succ hl)) hn
   have e1:i + 1=(i % prodL ws + 1) + prodL ws * (i / prodL ws):=by omega
   have e2:(i + 1) / prodL ws=i / prodL ws:=by rw [e1,Nat.add_mul_div_left _ _ hp,Nat.div_eq_of_lt g1,Nat.zero_add]
   have e3:(i + 1) % prodL ws=i % prodL ws + 1:=by rw [e1,Nat.add_mul_mod_self_left,Nat.mod_eq_of_lt g1]
   refine ⟨?_,fun q hq => ?_⟩
   ·show i + 1 < (a.toNat + 1) * prodL ws
    refine Nat.lt_of_lt_of_le (m:=prodL ws * (i / prodL ws + 1)) (by rw [Nat.mul_add,Nat.mul_one]; omega) ?_
    rw [Nat.mul_comm]; exact Nat.mul_le_mul_right _ h1
   ·rw [setN,setN,e2,e3]
    cases q with
    | zero=>rw [if_neg (by omega),if_pos (by omega)]; rfl
    | succ q =>
     have:=g2 q (Nat.lt_of_succ_lt_succ hq)
     by_cases c1:q=k
     ·rw [if_pos c1] at this; rw [if_pos (by omega)]; exact this
     ·rw [if_neg c1] at this
      rw [if_neg (by omega)]
      by_cases c2:q < k
      ·rw [if_pos c2] at this; rw [if_pos (by omega)]; exact this
      ·rw [if_neg c2] at this; rw [if_neg (by omega)]; exact this
def rowO (left:List Int) (i:Nat) (k:Int) (q:Nat):Int:=if (q:Int)<=k then (setN left i).getD q 0 else 0
def restQ (left set:List Int) (n:Nat) (q:Nat):Int:=if q < n then left.getD q 0 - set.getD q 0 else left.getD q 0
structure GoodLeft (f:Frm) (left:List Int):Prop where
 len:left.length=f.strips.length
 pos:∀ q,q < left.length->0<=left.getD q 0/\left.getD q 0<=(stp f q).many
theorem restL_len (left set:List Int):(restL left set).length=left.length:=by unfold restL; rw [List.length_map,List.length_range]
theorem restL_get {left set:List Int} {q:Nat} (h:q < left.length):(restL left set).getD q 0=left.getD q 0 - set.getD q 0:=by
 unfold restL
 rw [getD_lt _ _ (by rw [List.length_map,List.length_range]; exact h),List.getElem_map,List.getElem_range]
end Go.Sh
namespace Go.En
open Go Go.Ab Go.Sh
def aSpans (l:List Span):AV := .sl 2 l.length (fun i=>cSpan (l.getD i ⟨0,0⟩))
def cLay (b:Lay):List AV:=[aIntss (layS b),iv (layM b)]
abbrev vLay (b:Lay):AV := .opt b.isSome (cLay b)
end Go.En
namespace Go.Ab
open Go Go.RowKit Go.Proofs Go.Sh Go.En
def focB:CallSpec:={ args:=[],res := .any }
def clo159 (left:List Int):AV := .clo 159 [.rp [aInts left]]
def s149 (f:Frm) (left:List Int):CallSpec:={ args:=[vFrm f,aInts left],res:=clo159 left }
def s128 (f:Frm) (rooms:List Span) (left:List Int):CallSpec:={ args:=[vFrm f,aSpans rooms,aInts left],res:=vLay (lockP f rooms left),pre:=Sound f/\GoodLeft f left/\rooms.length<=3 }
abbrev bestB (f:Frm) (rooms:List Span) (left:List Int) (i:Nat):OB := .cells 108 [vLay (bestP f rooms left i)]
def h159a (f:Frm) (rooms:List Span) (left:List Int):Hint:={ X:=Nat,M:=fun i=>[(3,.vec 5000)],H:=fun i=>[(56,bestB f rooms left i),(5000,rowI 3 (setN left i))],I:=fun i=>i < prodL left,mu:=fun i=>prodL left - i,x0:=(0:Nat),nx:=fun i=>i + 1 }
def h159b (f:Frm) (rooms:List Span) (left:List Int) (i:Nat):Hint:={ X:=Nat,M:=fun n=>[(4,iv ((left.length:Int) - 1 - n))],H:=fun n=>[(5000,.vec 3 1 left.length (fun q=>[iv (rowO left i ((left.length:Int) - 1 - n) q)]))],I:=fun n=>n<=left.length /\ ∀ q,left.length - n<=q->q < left.length->(setN left i).getD q 0=left.getD q 0,mu:=fun n=>left.length - n,x0:=(0:Nat),nx:=fun n=>n + 1 }
def r128 (f:Frm) (rooms:List Span) (left:List Int):RangeH:={ J:=Nat,ok:=fun i=>i < prodL left,Y:=fun i=>{ args:=[.vec 5000],hin:=[(56,bestB f rooms left i),(5000,rowI 3 (setN left i))],res:=bv true,hout:=[(56,bestB f rooms left (i + 1)),(5000,rowI 3 (setN left i))] },hp:=[(56,bestB f rooms left (prodL left))] }
def y128 (f:Frm) (rooms:List Span) (left:List Int) (i:Nat):CallSpec:=(r128 f rooms left).Y i
def c128p (f:Frm) (rooms:List Span) (left:List Int) (i:Nat):CallSpec:=lendS 3 5000 1 none (s99 f (setN left i))
def c128c (f:Frm) (rooms:List Span) (left:List Int) (i:Nat):CallSpec:=s126o left 6120
def c128d (f:Frm) (rooms:List Span) (left:List Int) (i:Nat):CallSpec:=lendS 3 5000 0 none (s126o (setN left i) 16384)
def c128r (f:Frm) (rooms:List Span) (left:List Int) (i:Nat):CallSpec:=s128 f (rooms.drop 1) (restL left (setN left i))
def h128 (f:Frm) (rooms:List Span) (left:List Int) (i:Nat):Hint:={ X:=Nat,M:=fun k=>[(9,.vec 6001),(10,iv (sumTo (setN left i) k)),(40,iv k)],H:=fun k=>[(6001,.vec 3 1 left.length (fun q=>[iv (restQ left (setN left i) k q)]))],I:=fun k=>k<=left.length,mu:=fun k=>left.length - k,x0:=(0:Nat),nx:=fun k=>k + 1 }
end Go.Ab
namespace Go.Sh
open Go.Ab
variable {f:Frm} {left:List Int} {rooms:List Span}
theorem GoodLeft.nonneg (h:GoodLeft f left):∀ q,q < left.length->0<=left.getD q 0:=fun q hq=>(h.pos q hq).1
theorem GoodLeft.small (h:GoodLeft f left) (hs:Sound f) (q:Nat) (hq:q < left.length):left.getD q 0<=4:=by
 have h1:=h.pos q hq
 have h2:=hs.strip q (by rw [← h.len]; exact hq)
 omega
theorem GoodLeft.short (h:GoodLeft f left) (hs:Sound f):left.length<=3:=by rw [h.len]; exact hs.strips
theorem GoodLeft.set (h:GoodLeft f left) {j:Nat} (hj:j < prodL left) (q:Nat) (hq:q < left.length):0<=(setN left j).getD q 0/\(setN left j).getD q 0<=left.getD q 0:=setN_in h.nonneg hj q hq
theorem GoodLeft.isSet (h:GoodLeft f left) {j:Nat} (hj:j < prodL left):isSet f (setN left j)=true:=by
 unfold Go.Sh.isSet
 rw [setN_len,h.len]
 simp only [decide_true,Bool.true_and,List.all_eq_true,List.mem_range]
 intro q hq
 have h1:=h.set hj q (by rw [h.len]; exact hq)
 have h2:=h.pos q (by rw [h.len]; exact hq)
 unfold isSetAt within
 simp only [Bool.and_eq_true,decide_eq_true_eq]
 omega
theorem GoodLeft.rest (h:GoodLeft f left) {j:Nat} (hj:j < prodL left):GoodLeft f (restL left (setN left j)):=by
 refine ⟨by rw [restL_len,h.len],fun q hq => ?_⟩
 rw [restL_len] at hq
 rw [restL_get hq]
 have h1:=h.set hj q hq
 have h2:=h.pos q hq
 omega
theorem sumTo_succ (set:List Int) (n:Nat):sumTo set (n + 1)=sumTo set n + set.getD n 0:=by
 unfold sumTo; rw [List.range_succ,List.foldl_append]; rfl
theorem sumTo_in (h:GoodLeft f left) (hs:Sound f) {j:Nat} (hj:j < prodL left):∀ n,n<=left.length->0<=sumTo (setN left j) n/\sumTo (setN left j) n<=4 * n:=by
 intro n
 induction n with
 | zero=>intro _; exact ⟨Int.le_refl _,Int.le_refl _⟩
 | succ n ih =>
  intro hn
  rw [sumTo_succ]
  have h1:=ih (by omega)
  have h2:=h.set hj n (by omega)
  have h3:=h.small hs n (by omega)
  omega
theorem sumS_in (h:GoodLeft f left) (hs:Sound f) {j:Nat} (hj:j < prodL left):0<=sumS (setN left j)/\sumS (setN left j)<=12:=by
 have h1:=sumTo_in h hs hj left.length (Nat.le_refl _)
 have h2:=h.short hs
 unfold sumS
 rw [setN_len]
 omega
def layOK (b:Lay) (n:Nat):Prop := ∀ x,b=some x->0<=x.2/\x.2<=12 * n/\x.1.length=n
theorem step_ok {r:Span} {g:List Int->Lay} {n:Nat} (h:GoodLeft f left) (hs:Sound f) {b:Lay} {j:Nat} (hj:j < prodL left) (hg:layOK (g (restL left (setN left j))) n) (hb:layOK b (n + 1)):layOK (stepL f r g left b j) (n + 1):=by
 unfold stepL
 split
 ·cases e:g (restL left (setN left j)) with
  | none=>exact hb
  | some x =>
   simp only
   split
   ·intro y hy
    cases hy
    have h1:=hg x e
    have h2:=sumS_in h hs hj
    refine ⟨?_,?_,?_⟩
    ·show 0<=sumS _ + x.2; omega
    ·show sumS _ + x.2<=_; omega
    ·show (_ :: x.1).length=_; rw [List.length_cons,h1.2.2]
   ·exact hb
 ·exact hb
theorem fold_ok {r:Span} {g:List Int->Lay} {m:Nat} (h:GoodLeft f left) (hs:Sound f) (hg:∀ j,j < prodL left->layOK (g (restL left (setN left j))) m):∀ n,n<=prodL left->layOK ((List.range n).foldl (stepL f r g left) none) (m + 1):=by
 intro n
 induction n with
 | zero=>intro _ x hx; cases hx
 | succ n ih =>
  intro hn
  rw [List.range_succ,List.foldl_append]
  exact step_ok h hs (by omega) (hg n (by omega)) (ih (by omega))
theorem lock_ok (hs:Sound f):∀ (rooms:List Span) (left:List Int),GoodLeft f left->layOK (lockP f rooms left) rooms.length:=by
 intro rooms
 induction rooms with
 | nil=>intro left _ x hx; cases hx; exact ⟨Int.le_refl _,Int.le_refl _,rfl⟩
 | cons r rs ih=>intro left h; exact fold_ok h hs (fun j hj=>ih _ (h.rest hj)) _ (Nat.le_refl _)
theorem layM_in {b:Lay} {n:Nat} (h:layOK b n):0<=layM b/\layM b<=12 * n:=by
 cases b with
 | none=>exact ⟨Int.le_refl _,by show (0:Int)<=_; omega⟩
 | some x=>exact ⟨(h x rfl).1,(h x rfl).2.1⟩
theorem layS_len {b:Lay} {n:Nat} (h:layOK b n):(layS b).length<=n:=by
 cases b with
 | none=>exact Nat.zero_le _
 | some x=>exact Nat.le_of_eq (h x rfl).2.2
theorem bif_l {a b:Bool} (h:(bif a then b else false)=true):a=true:=by cases a <;> first | rfl | cases h
theorem best_out {j:Nat} (h:(!within (pointsP f (setN left j)) (rooms.getD 0 ⟨0,0⟩).lo (rooms.getD 0 ⟨0,0⟩).hi)=true):bestP f rooms left (j + 1)=bestP f rooms left j:=by
 rw [best_succ]; unfold stepL; rw [if_neg (by simpa using h)]
def goB (l b:Lay) (m:Int):Bool:=bif !!l.isSome then (bif !b.isSome then true else decide (m + layM l < layM b)) else false
theorem best_new {j:Nat} (h:(!within (pointsP f (setN left j)) (rooms.getD 0 ⟨0,0⟩).lo (rooms.getD 0 ⟨0,0⟩).hi)=false)
  (hc:goB (lockP f (rooms.drop 1) (restL left (setN left j))) (bestP f rooms left j) (sumS (setN left j))=true) :
  bestP f rooms left (j + 1)=some (setN left j :: layS (lockP f (rooms.drop 1) (restL left (setN left j))),sumS (setN left j) + layM (lockP f (rooms.drop 1) (restL left (setN left j)))):=by
 rw [best_succ]; unfold stepL
 rw [if_pos (by simpa using h)]
 generalize lockP f (rooms.drop 1) (restL left (setN left j))=l at hc ⊢
 generalize bestP f rooms left j=b at hc ⊢
 cases l with
 | none=>cases hc
 | some x =>
  simp only
  rw [if_pos]
  ·rfl
  ·cases b with
   | none=>rfl
   | some y=>exact hc
theorem best_old {j:Nat} (h:(!within (pointsP f (setN left j)) (rooms.getD 0 ⟨0,0⟩).lo (rooms.getD 0 ⟨0,0⟩).hi)=false)
  (hc:goB (lockP f (rooms.drop 1) (restL left (setN left j))) (bestP f rooms left j) (sumS (setN left j))=false) :
  bestP f rooms left (j + 1)=bestP f rooms left j:=by
 rw [best_succ]; unfold stepL
 rw [if_pos (by simpa using h)]
 generalize lockP f (rooms.drop 1) (restL left (setN left j))=l at hc ⊢
 generalize bestP f rooms left j=b at hc ⊢
 cases l with
 | none=>rfl
 | some x =>
  simp only
  rw [if_neg]
  cases b with
  | none=>cases hc
  | some y =>
   have hc':decide (sumS (setN left j) + x.2 < y.2)=false:=hc
   show ¬ decide (sumS (setN left j) + x.2 < y.2)=true
   rw [hc']; exact Bool.false_ne_true
theorem rowO_all {i:Nat} {k:Int} {q:Nat} (h:(q:Int)<=k):rowO left i k q=(setN left i).getD q 0:=if_pos h
theorem rowO_no {i:Nat} {k:Int} {q:Nat} (h:¬ (q:Int)<=k):rowO left i k q=0:=if_neg h
theorem full_end (h:GoodLeft f left) {i n:Nat} (hi:i < prodL left) (hn:∀ q,left.length - n<=q->q < left.length->(setN left i).getD q 0=left.getD q 0) (he:left.length<=n):i + 1=prodL left :=
 setN_full h.nonneg hi (fun q hq=>hn q (by omega) hq)
end Go.Sh
