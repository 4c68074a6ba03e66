/- PagesBest returns true for every input, and leaves what it was handed as it was. No condition. -/
import Derived.Test.YtpnmalddfpjcoaaQPagesBest4
import Derived.Deep.Slices
import Derived.ChangeShapes
import Derived.Carry
import Derived.OpenShut
import Derived.SizedLaws
import Derived.Test.YtpnmalddfpjcoaaRows
import Derived.ProofKit
import Derived.JoinedOf
set_option linter.all false
set_option linter.deprecated false
namespace Go.Sh
open Go.Ab
def usedL:List (List Int)->Nat->Int
 | [],_=>0
 | s :: l,q=>s.getD q 0 + usedL l q
theorem usedL_pos:∀ {l:List (List Int)} {q:Nat},(∀ i,i < l.length->0<=(l.getD i []).getD q 0)->0<=usedL l q:=by
 intro l
 induction l with
 | nil=>intro q _; exact Int.le_refl _
 | cons s l ih =>
  intro q h
  have h0:0<=s.getD q 0:=h 0 (Nat.succ_pos _)
  have h1:=ih (q:=q) (fun i hi=>h (i + 1) (Nat.succ_lt_succ hi))
  show 0<=s.getD q 0 + usedL l q
  omega
theorem usedL_append (a b:List (List Int)) (q:Nat):usedL (a ++ b) q=usedL a q + usedL b q:=by
 induction a with
 | nil=>show usedL b q=0 + usedL b q; omega
 | cons s a ih=>show s.getD q 0 + usedL (a ++ b) q=s.getD q 0 + usedL a q + usedL b q; omega
theorem manyL_append (a b:List (List Int)):manyL (a ++ b)=manyL a + manyL b:=by
 induction a with
 | nil=>show manyL b=0 + manyL b; omega
 | cons s a ih=>show sumS s + manyL (a ++ b)=sumS s + manyL a + manyL b; omega
theorem isLay_iff {f:Frm}:∀ {rooms:List Span} {left:List Int} {l:List (List Int)},(∀ q,q < left.length->0<=left.getD q 0)->(IsLay f rooms left l ↔ l.length=rooms.length ∧
  (∀ i,i < rooms.length->(l.getD i []).length=left.length/\(∀ q,q < left.length->0<=(l.getD i []).getD q 0)/\within (pointsP f (l.getD i [])) (rooms.getD i ⟨0,0⟩).lo (rooms.getD i ⟨0,0⟩).hi=true) ∧
  ∀ q,q < left.length->usedL l q<=left.getD q 0):=by
 intro rooms
 induction rooms with
 | nil =>
  intro left l h
  cases l with
  | nil=>exact ⟨fun _=>⟨rfl,fun i hi=>absurd hi (Nat.not_lt_zero _),fun q hq=>h q hq⟩,fun _=>True.intro⟩
  | cons s l=>exact ⟨fun h=>h.elim,fun h=>absurd h.1 (by simp)⟩
 | cons r rs ih =>
  intro left l h
  cases l with
  | nil=>exact ⟨fun h=>h.elim,fun h=>absurd h.1 (by simp)⟩
  | cons s l =>
   simp only [IsLay]
   rw [mem_setsP h]
   constructor
   ·rintro ⟨⟨h1,h2⟩,h3,h4⟩
    have hr:∀ q,q < (restL left s).length->0<=(restL left s).getD q 0:=by
     intro q hq
     rw [restL_len] at hq
     rw [restL_get hq]
     have:=h2 q hq
     omega
    obtain ⟨g1,g2,g3⟩:=(ih hr).1 h4
    rw [restL_len] at g2 g3
    refine ⟨by rw [List.length_cons,List.length_cons,g1],fun i hi => ?_,fun q hq => ?_⟩
    ·cases i with
     | zero=>exact ⟨h1,fun q hq=>(h2 q hq).1,h3⟩
     | succ i=>exact g2 i (Nat.lt_of_succ_lt_succ hi)
    ·have:=g3 q hq
     rw [restL_get hq] at this
     show s.getD q 0 + usedL l q<=_
     omega
   ·rintro ⟨h1,h2,h3⟩
    have h1':l.length=rs.length:=Nat.succ.inj h1
    have h0:=h2 0 (Nat.succ_pos _)
    have hu:∀ q,q < left.length->0<=usedL l q:=fun q hq=>usedL_pos (fun i hi=>(h2 (i + 1) (Nat.succ_lt_succ (by omega))).2.1 q hq)
    have h3':∀ q,q < left.length->s.getD q 0 + usedL l q<=left.getD q 0:=h3
    have hs:∀ q,q < left.length->0<=s.getD q 0/\s.getD q 0<=left.getD q 0:=fun q hq=>by
     have a:=h0.2.1 q hq
     have b:=hu q hq
     have c:=h3' q hq
     have a':0<=s.getD q 0:=a
     omega
    refine ⟨⟨h0.1,hs⟩,h0.2.2,?_⟩
    have hr:∀ q,q < (restL left s).length->0<=(restL left s).getD q 0:=by
     intro q hq
     rw [restL_len] at hq
     rw [restL_get hq]
     have:=hs q hq
     omega
    refine (ih hr).2 ⟨h1',fun i hi => ?_,fun q hq => ?_⟩
    ·rw [restL_len]; exact h2 (i + 1) (Nat.succ_lt_succ hi)
    ·rw [restL_len] at hq
     rw [restL_get hq]
     have:=h3' q hq
     omega
def LayF (f:Frm) (w:Int) (l:List (List Int)):Prop:=IsLay f (roomsTo f w f.columns.length) (stockTo f f.strips.length) l
theorem rooms_get {f:Frm} {w:Int} {n i:Nat} (h:i < n):(roomsTo f w n).getD i ⟨0,0⟩=roomP f (highP f (delW (col f i) (bitP w))):=by
 rw [getD_lt _ _ (by rw [rooms_len]; exact h)]; unfold roomsTo; rw [List.getElem_map,List.getElem_range]
def sureH (f:Frm) (s:Span) (n:Int):Prop:=f.length - f.slack<=s.lo + n/\s.hi + n<=f.length
theorem within_room {f:Frm} {s:Span} {n:Int} (h:0<=n):within n (roomP f s).lo (roomP f s).hi=true ↔ sureH f s n:=by
 rw [within_iff]; unfold roomP sureH; simp only; omega
theorem pts_pos {f:Frm} (hs:Sound f) {s:List Int} (h1:s.length=f.strips.length) (h2:∀ q,q < f.strips.length->0<=s.getD q 0):0<=pointsP f s:=by
 unfold pointsP
 have:∀ k,k<=s.length->0<=ptTo f s k:=by
  intro k
  induction k with
  | zero=>intro _; exact Int.le_refl 0
  | succ k ih =>
   intro hk
   rw [pt_succ]
   have:=ih (by omega)
   have h4:=hs.strip k (by omega)
   have h3:0<=s.getD k 0 * (stp f k).thick:=Int.mul_nonneg (h2 k (by omega)) (by omega)
   omega
 exact this _ (Nat.le_refl _)
theorem layF_iff {f:Frm} (hs:Sound f) {w:Int} {l:List (List Int)}:LayF f w l ↔ l.length=f.columns.length ∧
  (∀ i,i < f.columns.length->(l.getD i []).length=f.strips.length/\(∀ q,q < f.strips.length->0<=(l.getD i []).getD q 0)/\sureH f (highP f (delW (col f i) (bitP w))) (pointsP f (l.getD i []))) ∧
  ∀ q,q < f.strips.length->usedL l q<=(stp f q).many:=by
 unfold LayF
 rw [isLay_iff (stock_good hs).nonneg,rooms_len,stock_len]
 constructor
 ·rintro ⟨h1,h2,h3⟩
  refine ⟨h1,fun i hi => ?_,fun q hq=>by rw [← stock_get hq]; exact h3 q hq⟩
  obtain ⟨a,b,c⟩:=h2 i hi
  refine ⟨a,b,?_⟩
  rw [rooms_get hi] at c
  exact (within_room (pts_pos hs a b)).1 c
 ·rintro ⟨h1,h2,h3⟩
  refine ⟨h1,fun i hi => ?_,fun q hq=>by rw [stock_get hq]; exact h3 q hq⟩
  obtain ⟨a,b,c⟩:=h2 i hi
  refine ⟨a,b,?_⟩
  rw [rooms_get hi]
  exact (within_room (pts_pos hs a b)).2 c
theorem whole_some {f:Frm} {w:Int} {x:List (List Int) × Int} (h:wholeP f w=some x):LayF f w x.1/\x.2=manyL x.1 /\ ∀ l,LayF f w l->x.2<=manyL l/\(manyL l=x.2->l=x.1 ∨ earlierL x.1 l):=by
 unfold wholeP at h
 rw [lock_fm] at h
 obtain ⟨h1,h2,h3⟩:=fm_some (laysR_sort _ _ _) h
 exact ⟨mem_laysR.1 h1,h2,fun l hl=>h3 l (mem_laysR.2 hl)⟩
theorem whole_none {f:Frm} {w:Int} (h:wholeP f w=none) (l:List (List Int)):¬ LayF f w l:=by
 unfold wholeP at h
 rw [lock_fm] at h
 intro hl
 have:=mem_laysR.2 hl
 rw [fm_none h] at this
 cases this
theorem whole_of {f:Frm} {w:Int} {l:List (List Int)} (h:LayF f w l):(wholeP f w).isSome=true:=by
 cases e:wholeP f w with
 | none=>exact absurd h (whole_none e l)
 | some x=>rfl
theorem whole_better {f o:Frm} {w v:Int} (h:∀ l,LayF f w l -> ∃ l',LayF o v l'/\manyL l'<=manyL l) :
  (wholeP f w=none ∨ (wholeP o v).isSome=true/\layM (wholeP o v)<=layM (wholeP f w)):=by
 cases e:wholeP f w with
 | none=>exact .inl rfl
 | some x =>
  right
  obtain ⟨h1,h2,h3⟩:=whole_some e
  obtain ⟨l',g1,g2⟩:=h _ h1
  cases e2:wholeP o v with
  | none=>exact absurd g1 (whole_none e2 _)
  | some y =>
   obtain ⟨k1,k2,k3⟩:=whole_some e2
   exact ⟨rfl,by show y.2<=x.2; have:=(k3 l' g1).1; omega⟩
def stripsV (f:Frm):Int:=match wholeP f 0 with | some x=>x.2 | none=>100000
theorem whole_in {f:Frm} (hs:Sound f) {w:Int}:layOK (wholeP f w) f.columns.length:=by
 have h:=lock_ok hs (roomsTo f w f.columns.length) (stockTo f f.strips.length) (stock_good hs)
 rw [rooms_len] at h
 exact h
theorem stripsV_le {f o:Frm} (hs:Sound f) (ho:Sound o) (h:∀ l,LayF f 0 l -> ∃ l',LayF o 0 l'/\manyL l'<=manyL l):stripsV o<=stripsV f:=by
 unfold stripsV
 have hb:=whole_better h
 have h1:=whole_in (w:=0) hs
 have h2:=whole_in (w:=0) ho
 have h3:=hs.columns
 have h4:=ho.columns
 cases e:wholeP f 0 with
 | none =>
  cases e2:wholeP o 0 with
  | none=>exact Int.le_refl _
  | some y=>have:=(h2 y e2).2.1; show y.2<=100000; omega
 | some x =>
  rw [e] at hb
  rcases hb with hb | ⟨hb,hc⟩
  ·cases hb
  ·cases e2:wholeP o 0 with
   | none=>rw [e2] at hb; cases hb
   | some y=>rw [e2] at hc; exact hc
theorem lockP_congr {f g:Frm} (h:f.strips=g.strips):∀ (rooms:List Span) (left:List Int),lockP f rooms left=lockP g rooms left:=by
 have hp:∀ s,pointsP f s=pointsP g s:=by intro s; unfold pointsP ptTo stp; rw [h]
 intro rooms
 induction rooms with
 | nil=>intro left; rfl
 | cons r rs ih =>
  intro left
  have:lockP f rs=lockP g rs:=funext ih
  unfold lockP
  rw [this]
  congr 1
  funext b i
  unfold stepL
  rw [hp]
end Go.Sh
namespace Go.Sh
open Go.Ab
def RisN (n:Nat) (l:List Int):Prop:=l.Pairwise (· < ·) /\ ∀ x,x ∈ l->0<=x/\x < n
theorem out_mem {w:Int} {n:Nat} {p:Int}:p ∈ outTo w n ↔ (0<=p/\p < n)/\bitP w p=true:=by
 unfold outTo
 rw [List.mem_filterMap]
 constructor
 ·rintro ⟨i,hi,h⟩
  have hi:=List.mem_range.1 hi
  split at h
  ·cases h; rename_i hb; exact ⟨by omega,hb⟩
  ·cases h
 ·rintro ⟨h1,h2⟩
  have e:((p.toNat:Nat):Int)=p:=by omega
  exact ⟨p.toNat,List.mem_range.2 (by omega),by rw [e,if_pos h2]⟩
theorem out_ris (w:Int) (n:Nat):RisN n (outTo w n):=by
 refine ⟨?_,fun x hx=>(out_mem.1 hx).1⟩
 unfold outTo
 rw [List.pairwise_filterMap]
 refine List.pairwise_lt_range.imp @fun a b h x hx y hy => ?_
 split at hx
 ·split at hy
  ·cases hx; cases hy; omega
  ·cases hy
 ·cases hx
theorem bit_high {w n i:Nat} (h:i < n):bitP ((w + 2 ^ n:Nat):Int) (i:Int)=bitP (w:Int) (i:Int):=by
 unfold bitP
 have e:∀ v:Nat,(v:Int) / 2 ^ ((i:Nat):Int).toNat % 2=((v / 2 ^ i % 2:Nat):Int):=by
  intro v
  rw [Int.toNat_natCast]; norm_cast
 rw [e,e]
 have:(w + 2 ^ n) / 2 ^ i % 2=w / 2 ^ i % 2:=by
  rw [show n=i + 1 + (n - i - 1) by omega,Nat.pow_add,Nat.pow_succ,Nat.mul_assoc,Nat.add_mul_div_left _ _ (Nat.two_pow_pos i),Nat.add_mul_mod_self_left]
 rw [this]
theorem bit_top {w n:Nat} (h:w < 2 ^ n):bitP ((w + 2 ^ n:Nat):Int) (n:Int)=true:=by
 unfold bitP
 rw [Int.toNat_natCast]
 have:(w + 2 ^ n) / 2 ^ n % 2=1:=by
  rw [Nat.add_div_right _ (Nat.two_pow_pos n),Nat.div_eq_of_lt h]
 have e:((w + 2 ^ n:Nat):Int) / 2 ^ n % 2=(((w + 2 ^ n) / 2 ^ n % 2:Nat):Int):=by norm_cast
 rw [e,this]; rfl
theorem bit_none {w n:Nat} (h:w < 2 ^ n):bitP (w:Int) (n:Int)=false:=by
 unfold bitP
 rw [Int.toNat_natCast]
 have e:(w:Int) / 2 ^ n % 2=((w / 2 ^ n % 2:Nat):Int):=by norm_cast
 rw [e,Nat.div_eq_of_lt h]; rfl
theorem fmap_congr {α β:Type} {f g:α->Option β}:∀ {l:List α},(∀ x,x ∈ l->f x=g x)->l.filterMap f=l.filterMap g:=by
 intro l
 induction l with
 | nil=>intro _; rfl
 | cons x l ih =>
  intro h
  rw [List.filterMap_cons,List.filterMap_cons,h x (by simp),ih (fun y hy=>h y (by simp [hy]))]
theorem bits_of:∀ {n:Nat} {l:List Int},RisN n l -> ∃ w:Nat,w < 2 ^ n/\outTo (w:Int) n=l:=by
 intro n
 induction n with
 | zero =>
  intro l h
  have:l = []:=by
   cases l with
   | nil=>rfl
   | cons x l=>have:=h.2 x (by simp); omega
  exact ⟨0,Nat.one_pos,by rw [this]; rfl⟩
 | succ n ih =>
  intro l h
  by_cases hn:(n:Int) ∈ l
  · -- the last one is n
   obtain ⟨a,b,rfl⟩:=List.append_of_mem hn
   have hp:=h.1
   rw [List.pairwise_append] at hp
   have hb:b = []:=by
    cases b with
    | nil=>rfl
    | cons y b =>
     have h1:=(List.pairwise_cons.1 hp.2.1).1 y (by simp)
     have h2:=(h.2 y (by simp)).2
     omega
   subst hb
   obtain ⟨w,hw,e⟩:=ih (l:=a) ⟨hp.1,fun x hx=>by
    have h1:=(h.2 x (by simp [hx])).1
    have h2:=hp.2.2 x hx n (by simp)
    omega⟩
   refine ⟨w + 2 ^ n,by rw [Nat.pow_succ]; omega,?_⟩
   rw [out_t (bit_top hw),← e]
   congr 1
   unfold outTo
   refine fmap_congr fun i hi => ?_
   have:=List.mem_range.1 hi
   rw [bit_high this]
  ·obtain ⟨w,hw,e⟩:=ih (l:=l) ⟨h.1,fun x hx=>by
    have h1:=h.2 x hx
    have:x ≠ n:=fun e=>hn (e ▸ hx)
    omega⟩
   exact ⟨w,by rw [Nat.pow_succ]; omega,by rw [out_f (bit_none hw),e]⟩
def withoutF (f:Frm) (out:List Int):Frm:={ f with columns:=f.columns.map fun c=>c.filter fun p => !isIn out p }
theorem isIn_iff {l:List Int} {p:Int}:isIn l p=true ↔ p ∈ l:=by
 unfold isIn
 rw [List.any_eq_true]
 constructor
 ·rintro ⟨x,hx,h⟩; rw [of_decide_eq_true h] at hx; exact hx
 ·intro h; exact ⟨p,h,by simp⟩
theorem col_without (f:Frm) (out:List Int) (c:Nat):col (withoutF f out) c=(col f c).filter fun p => !isIn out p:=by
 unfold col withoutF
 simp only [List.getD_eq_getElem?_getD,List.getElem?_map]
 cases f.columns[c]? <;> rfl
theorem without_sound {f:Frm} (hs:Sound f) (out:List Int):Sound (withoutF f out):=by
 have hg:∀ i,goodL f (col (withoutF f out) i):=fun i=>by
  rw [col_without]
  exact goodL_mem (Nat.le_trans (List.length_filter_le _ _) (hs.colLen i)) (fun w hw=>mem_goodL (col_good hs i) w (List.mem_filter.1 hw).1)
 exact ⟨hs.len,hs.slack,hs.strips,hs.pieces,by show (f.columns.map _).length<=3; rw [List.length_map]; exact hs.columns,hs.strip,hs.piece,fun i=>(hg i).1,fun i k hk=>(hg i).2 k hk⟩
theorem bit_zero (p:Int):bitP 0 p=false:=by
 unfold bitP; rw [Int.zero_ediv]; rfl
theorem del_zero (l:List Int):delW l (bitP 0)=l:=by
 unfold delW; rw [List.filter_eq_self]; intro p _; rw [bit_zero]; rfl
theorem whole_without {f:Frm} (hs:Sound f) (w:Int):wholeP f w=wholeP (withoutF f (outP f w)) 0:=by
 unfold wholeP
 rw [lockP_congr (f:=f) (g:=withoutF f (outP f w)) rfl]
 have hl:(withoutF f (outP f w)).columns.length=f.columns.length:=by show (f.columns.map _).length=_; rw [List.length_map]
 have e:roomsTo f w f.columns.length=roomsTo (withoutF f (outP f w)) 0 (withoutF f (outP f w)).columns.length:=by
  rw [hl]
  unfold roomsTo
  refine List.map_congr_left fun c _ => ?_
  rw [del_zero,col_without]
  have:(col f c).filter (fun p => !isIn (outP f w) p)=delW (col f c) (bitP w):=by
   unfold delW
   refine List.filter_congr fun p hp => ?_
   have h1:=mem_goodL (col_good hs c) p hp
   have:isIn (outP f w) p=bitP w p:=by
    rw [Bool.eq_iff_iff,isIn_iff]; unfold outP; rw [out_mem]
    exact ⟨fun h=>h.2,fun h=>⟨h1,h⟩⟩
   rw [this]
  rw [this]
  rfl
 rw [e]; rfl
def canP (f:Frm) (out:List Int):Bool:=(wholeP (withoutF f out) 0).isSome
theorem can_bits {f:Frm} (hs:Sound f) (w:Int):(wholeP f w).isSome=canP f (outP f w):=by unfold canP; rw [whole_without hs]
def LtK (f:Frm) (a b:List Int):Prop:=penceP f a < penceP f b ∨ (penceP f a=penceP f b/\(a.length < b.length ∨ (a.length=b.length/\earlier a b=true)))
theorem earlier_trans:∀ {a b c:List Int},earlier a b=true->earlier b c=true->earlier a c=true:=by
 intro a
 induction a with
 | nil=>intro b c h; cases h
 | cons x xs ih =>
  intro b c h1 h2
  match b,c,h1,h2 with
  | y :: ys,z :: zs,h1,h2 =>
   simp only [earlier] at h1 h2 ⊢
   by_cases e:x=y
   ·subst e
    rw [if_pos rfl] at h1
    by_cases e2:x=z
    ·subst e2; rw [if_pos rfl] at h2 ⊢; exact ih h1 h2
    ·rw [if_neg e2] at h2 ⊢; exact h2
   ·rw [if_neg e] at h1
    by_cases e2:y=z
    ·subst e2; rw [if_neg e]; exact h1
    ·rw [if_neg e2] at h2
     simp only [decide_eq_true_eq] at h1 h2
     rw [if_neg (by omega)]; exact decide_eq_true (by omega)
theorem earlier_total:∀ {a b:List Int},a.length=b.length->a ≠ b->earlier a b=true ∨ earlier b a=true:=by
 intro a
 induction a with
 | nil=>intro b h hn; exact absurd (List.eq_nil_of_length_eq_zero h.symm).symm hn
 | cons x xs ih =>
  intro b h hn
  match b,h,hn with
  | y :: ys,h,hn =>
   simp only [earlier]
   by_cases e:x=y
   ·subst e
    rw [if_pos rfl,if_pos rfl]
    exact ih (Nat.succ.inj h) (fun e=>hn (by rw [e]))
   ·rw [if_neg e,if_neg (fun h=>e h.symm)]
    simp only [decide_eq_true_eq]; omega
theorem LtK_trans {f:Frm} {a b c:List Int} (h1:LtK f a b) (h2:LtK f b c):LtK f a c:=by
 unfold LtK at *
 rcases h1 with h1 | ⟨h1,h1'⟩
 ·rcases h2 with h2 | ⟨h2,_⟩ <;> exact .inl (by omega)
 ·rcases h2 with h2 | ⟨h2,h2'⟩
  ·exact .inl (by omega)
  ·refine .inr ⟨by omega,?_⟩
   rcases h1' with h1' | ⟨h1',k1⟩
   ·rcases h2' with h2' | ⟨h2',_⟩ <;> exact .inl (by omega)
   ·rcases h2' with h2' | ⟨h2',k2⟩
    ·exact .inl (by omega)
    ·exact .inr ⟨by omega,earlier_trans k1 k2⟩
theorem LtK_irr {f:Frm} {a:List Int}:¬ LtK f a a:=by
 rintro (h | ⟨_,h | ⟨_,h⟩⟩)
 ·omega
 ·omega
 ·rw [earlier_irr] at h; cases h
theorem LtK_total {f:Frm} {a b:List Int} (h:a ≠ b):LtK f a b ∨ LtK f b a:=by
 unfold LtK
 by_cases h1:penceP f a=penceP f b
 ·by_cases h2:a.length=b.length
  ·rcases earlier_total h2 h with h3 | h3
   ·exact .inl (.inr ⟨h1,.inr ⟨h2,h3⟩⟩)
   ·exact .inr (.inr ⟨h1.symm,.inr ⟨h2.symm,h3⟩⟩)
  ·by_cases h3:a.length < b.length
   ·exact .inl (.inr ⟨h1,.inl h3⟩)
   ·exact .inr (.inr ⟨h1.symm,.inl (by omega)⟩)
 ·by_cases h3:penceP f a < penceP f b
  ·exact .inl (.inl h3)
  ·exact .inr (.inl (by omega))
theorem cmpL_early:∀ {a b:List Int},a.length=b.length->(cmpL a b < 0 ↔ earlier a b=true):=by
 intro a
 induction a with
 | nil =>
  intro b h
  have:b = []:=List.eq_nil_of_length_eq_zero h.symm
  subst this
  exact ⟨fun h=>absurd h (by decide),fun h=>by cases h⟩
 | cons x xs ih =>
  intro b h
  match b,h with
  | y :: ys,h =>
   simp only [cmpL,earlier]
   by_cases e:x=y
   ·subst e
    rw [if_pos (cmpW_same x),if_pos rfl]
    exact ih (Nat.succ.inj h)
   ·rw [if_neg (fun h=>e (cmpW_zero h)),if_neg e]
    unfold cmpW
    by_cases h1:x < y
    ·rw [if_pos h1]; exact ⟨fun _=>decide_eq_true h1,fun _=>by omega⟩
    ·rw [if_neg h1,if_pos (by omega)]
     exact ⟨fun h=>absurd h (by omega),fun h=>absurd (of_decide_eq_true h) h1⟩
theorem orI3 (a b c:Int):orI [a,b,c]=if a=0 then (if b=0 then c else b) else a:=by
 unfold orI
 by_cases h1:a=0
 ·subst h1
  by_cases h2:b=0
  ·subst h2
   by_cases h3:c=0
   ·subst h3; rfl
   ·simp [h3]
  ·simp [h2]
 ·simp [h1]
theorem or_lt {f:Frm} {a b:List Int}:orI [penceP f a - penceP f b,(a.length:Int) - (b.length:Int),cmpL a b] < 0 ↔ LtK f a b:=by
 rw [orI3]
 unfold LtK
 by_cases h1:penceP f a=penceP f b
 ·rw [if_pos (by omega)]
  by_cases h2:a.length=b.length
  ·rw [if_pos (by omega),cmpL_early h2]
   constructor
   ·intro h; exact .inr ⟨h1,.inr ⟨h2,h⟩⟩
   ·rintro (h | ⟨_,h | ⟨_,h⟩⟩)
    ·omega
    ·omega
    ·exact h
  ·rw [if_neg (by omega)]
   constructor
   ·intro h; exact .inr ⟨h1,.inl (by omega)⟩
   ·rintro (h | ⟨_,h | ⟨h,_⟩⟩)
    ·omega
    ·omega
    ·omega
 ·rw [if_neg (by omega)]
  constructor
  ·intro h; exact .inl (by omega)
  ·rintro (h | ⟨h,_⟩) <;> omega
def BestO (f:Frm) (n:Nat) (x:List Int × Int):Prop:=x.2=penceP f x.1/\(∃ w:Nat,w < n/\x.1=outP f (w:Int)/\(wholeP f (w:Int)).isSome=true) /\ ∀ v:Nat,v < n->(wholeP f (v:Int)).isSome=true -> ¬ LtK f (outP f (v:Int)) x.1
theorem worse_iff {f:Frm} {x:List Int × Int} (hx:x.2=penceP f x.1) (w:Int):worse f (some x) w=true ↔ ¬ LtK f (outP f w) x.1:=by
 unfold worse
 simp only [decide_eq_true_eq]
 rw [hx,← or_lt]
 omega
theorem ref_best (f:Frm):∀ n,(refTo f n=none -> ∀ v,v < n->(wholeP f (v:Int)).isSome=false) /\ ∀ x,refTo f n=some x->BestO f n x:=by
 intro n
 induction n with
 | zero=>exact ⟨fun _ v hv=>absurd hv (Nat.not_lt_zero _),fun x h=>(by cases h)⟩
 | succ n ih =>
  obtain ⟨ih1,ih2⟩:=ih
  rw [ref_succ]
  unfold stepO
  cases e:refTo f n with
  | none =>
   have h0:=ih1 e
   cases hw:(wholeP f (n:Int)).isSome with
   | false =>
    rw [if_pos (by simp [worse])]
    exact ⟨fun _=>lt_succ_cases h0 hw,fun x h=>(by cases h)⟩
   | true =>
    rw [if_neg (by simp [worse])]
    refine ⟨fun h=>(by cases h),fun x h => ?_⟩
    cases h
    refine ⟨rfl,⟨n,Nat.lt_succ_self n,rfl,hw⟩,fun v hv hc => ?_⟩
    by_cases hvn:v=n
    ·subst hvn; exact LtK_irr
    ·rw [h0 v (by omega)] at hc; cases hc
  | some x =>
   obtain ⟨g1,⟨w,g2,g3,g4⟩,g5⟩:=ih2 x e
   cases hw:(wholeP f (n:Int)).isSome with
   | false =>
    rw [if_pos (by simp)]
    refine ⟨fun h=>(by cases h),fun y h => ?_⟩
    cases h
    refine ⟨g1,⟨w,by omega,g3,g4⟩,fun v hv hc => ?_⟩
    by_cases hvn:v=n
    ·subst hvn; rw [hw] at hc; cases hc
    ·exact g5 v (by omega) hc
   | true =>
    by_cases hl:LtK f (outP f (n:Int)) x.1
    ·have:worse f (some x) (n:Int)=false:=by
      cases e2:worse f (some x) (n:Int) with
      | false=>rfl
      | true=>exact absurd hl ((worse_iff g1 _).1 e2)
     rw [this,if_neg (by simp)]
     refine ⟨fun h=>(by cases h),fun y h => ?_⟩
     cases h
     refine ⟨rfl,⟨n,Nat.lt_succ_self n,rfl,hw⟩,fun v hv hc => ?_⟩
     by_cases hvn:v=n
     ·subst hvn; exact LtK_irr
     ·intro h; exact g5 v (by omega) hc (LtK_trans h hl)
    ·rw [(worse_iff g1 _).2 hl,if_pos (by simp)]
     refine ⟨fun h=>(by cases h),fun y h => ?_⟩
     cases h
     refine ⟨g1,⟨w,by omega,g3,g4⟩,fun v hv hc => ?_⟩
     by_cases hvn:v=n
     ·subst hvn; exact hl
     ·exact g5 v (by omega) hc
theorem refP_some {f:Frm} (hs:Sound f) {x:List Int × Int} (h:refP f=some x):x.2=penceP f x.1/\RisN f.pieces.length x.1/\canP f x.1=true /\ ∀ l,RisN f.pieces.length l->canP f l=true -> ¬ LtK f l x.1:=by
 obtain ⟨h1,⟨w,h2,h3,h4⟩,h5⟩:=(ref_best f (2 ^ f.pieces.length)).2 x h
 rw [can_bits hs] at h4
 refine ⟨h1,by rw [h3]; exact out_ris _ _,by rw [h3]; exact h4,fun l hl hc => ?_⟩
 obtain ⟨v,hv,e⟩:=bits_of hl
 have:=h5 v hv (by rw [can_bits hs]; unfold outP; rw [e]; exact hc)
 unfold outP at this
 rw [e] at this; exact this
theorem refP_none {f:Frm} (hs:Sound f) (h:refP f=none) {l:List Int} (hl:RisN f.pieces.length l):canP f l=false:=by
 obtain ⟨v,hv,e⟩:=bits_of hl
 have:=(ref_best f (2 ^ f.pieces.length)).1 h v hv
 rw [can_bits hs] at this
 unfold outP at this
 rw [e] at this; exact this
def lostV (f:Frm):Int:=match refP f with | some x=>x.2 | none=>100000
theorem lostV_in {f:Frm} (hs:Sound f):0<=lostV f/\lostV f<=100000:=by
 unfold lostV
 cases e:refP f with
 | none=>exact ⟨by decide,by decide⟩
 | some x=>have:=ref_ok hs _ x e; exact ⟨this.1,by have:=this.2.1; show x.2<=_; omega⟩
theorem lostV_le {f o:Frm} (hs:Sound f) (ho:Sound o) (hn:f.pieces.length=o.pieces.length) (hp:∀ l,penceP o l=penceP f l) (h:∀ l,RisN f.pieces.length l->canP f l=true->canP o l=true):lostV o<=lostV f:=by
 unfold lostV
 cases e:refP f with
 | none=>exact (lostV_in ho).2
 | some x =>
  obtain ⟨h1,h2,h3,h4⟩:=refP_some hs e
  cases e2:refP o with
  | none =>
   have:=refP_none ho e2 (hn ▸ h2)
   rw [h _ h2 h3] at this; cases this
  | some y =>
   obtain ⟨g1,g2,g3,g4⟩:=refP_some ho e2
   have:=g4 x.1 (hn ▸ h2) (h _ h2 h3)
   show y.2<=x.2
   rw [g1,h1,← hp]
   rcases Int.lt_or_le (penceP o x.1) (penceP o y.1) with hlt | hle
   ·exact absurd (.inl hlt) this
   ·exact hle
end Go.Sh
namespace Go.Sh
open Go.Ab
theorem sure_room {f:Frm} (hs:Sound f) (c:Nat) {n:Int} (hn:0<=n):sureP f c n=within n (roomP f (highP f (col f c))).lo (roomP f (highP f (col f c))).hi:=by
 rw [Bool.eq_iff_iff,within_room hn]
 have h:=high_bound' hs (col_good hs c)
 have h2:=hs.slack
 unfold sureP lockedAt sureH
 rw [Bool.and_eq_true,within_iff,within_iff]
 omega
theorem ris_len {n:Nat} {l:List Int} (h:RisN n l):l.length<=n:=by
 obtain ⟨w,_,e⟩:=bits_of h
 rw [← e]; exact out_len _ _
end Go.Sh
namespace Go.Sh
open Go.Ab
theorem high_snoc (f:Frm) (l:List Int) (p:Int):highP f (l ++ [p])=hiStep f (highP f l) p:=by unfold highP; rw [List.foldl_append]; rfl
theorem high_mono {f o:Frm} (hp:∀ i,(pc f i).lo<=(pc o i).lo/\(pc o i).hi<=(pc f i).hi) (l:List Int):(highP f l).lo<=(highP o l).lo/\(highP o l).hi<=(highP f l).hi:=by
 induction l using snoc_ind with
 | h0=>exact ⟨Int.le_refl _,Int.le_refl _⟩
 | h1 l p ih =>
  rw [high_snoc,high_snoc]
  have:=hp p.toNat
  simp only [hiStep]
  omega
structure AsGood (f o:Frm):Prop where
 strips:o.strips.length=f.strips.length
 thick:∀ i,(stp o i).thick=(stp f i).thick
 many:∀ i,i < f.strips.length->(stp f i).many<=(stp o i).many
 columns:o.columns=f.columns
 length:o.length=f.length
 slack:f.slack<=o.slack
 pieces:o.pieces.length=f.pieces.length
 high:∀ i,(pc f i).lo<=(pc o i).lo/\(pc o i).hi<=(pc f i).hi
 pence:∀ i,(pc o i).pence=(pc f i).pence
theorem AsGood.points {f o:Frm} (h:AsGood f o) (s:List Int):pointsP o s=pointsP f s:=by
 unfold pointsP ptTo
 congr 1
 funext a i
 rw [h.thick]
theorem AsGood.lay {f o:Frm} (h:AsGood f o) (hs:Sound f) (ho:Sound o) {w:Int} {l:List (List Int)} (hl:LayF f w l):LayF o w l:=by
 rw [layF_iff hs] at hl
 rw [layF_iff ho]
 obtain ⟨h1,h2,h3⟩:=hl
 refine ⟨by rw [h.columns]; exact h1,fun i hi => ?_,fun q hq => ?_⟩
 ·rw [h.columns] at hi
  obtain ⟨a,b,c⟩:=h2 i hi
  refine ⟨by rw [h.strips]; exact a,fun q hq=>b q (by rw [← h.strips]; exact hq),?_⟩
  have e:col o i=col f i:=by unfold col; rw [h.columns]
  rw [e,h.points]
  have:=high_mono h.high (delW (col f i) (bitP w))
  unfold sureH at c ⊢
  have h4:=h.length
  have h5:=h.slack
  omega
 ·rw [h.strips] at hq
  have:=h3 q hq
  have:=h.many q hq
  omega
theorem AsGood.without {f o:Frm} (h:AsGood f o) (out:List Int):AsGood (withoutF f out) (withoutF o out) :=
 ⟨h.strips,h.thick,h.many,by show o.columns.map _=f.columns.map _; rw [h.columns],h.length,h.slack,h.pieces,h.high,h.pence⟩
theorem AsGood.pence' {f o:Frm} (h:AsGood f o) (l:List Int):penceP o l=penceP f l:=by
 unfold penceP
 congr 1
 funext a p
 rw [h.pence]
theorem AsGood.stripsV {f o:Frm} (h:AsGood f o) (hs:Sound f) (ho:Sound o):stripsV o<=stripsV f :=
 stripsV_le hs ho fun l hl=>⟨l,h.lay hs ho hl,Int.le_refl _⟩
theorem whole_is {f:Frm} {w:Int}:(wholeP f w).isSome=true ↔ ∃ l,LayF f w l:=by
 constructor
 ·intro h
  cases e:wholeP f w with
  | none=>rw [e] at h; cases h
  | some x=>exact ⟨x.1,(whole_some e).1⟩
 ·rintro ⟨l,hl⟩; exact whole_of hl
theorem can_is {f:Frm} {out:List Int}:canP f out=true ↔ ∃ l,LayF (withoutF f out) 0 l:=whole_is
theorem AsGood.lostV {f o:Frm} (h:AsGood f o) (hs:Sound f) (ho:Sound o):lostV o<=lostV f:=by
 refine lostV_le hs ho h.pieces.symm h.pence' fun l _ hc => ?_
 rw [can_is] at hc ⊢
 obtain ⟨x,hx⟩:=hc
 exact ⟨x,(h.without l).lay (without_sound hs l) (without_sound ho l) hx⟩
end Go.Sh
namespace Go.Sh
open Go.Ab
variable {f:Frm}
end Go.Sh
namespace Go.Sh
structure Plc where
 column:Int
 set:List Int
 one:Int
 other:Int
def stockedF (f:Frm) (k:Nat) (m:Int):Frm:={ f with strips:=f.strips.set k { stp f k with many:=m } }
def exP:Frm:=⟨60,2,[⟨5,2⟩,⟨3,2⟩,⟨18,1⟩],[⟨20,21,9⟩,⟨30,30,5⟩,⟨40,41,7⟩,⟨12,13,4⟩],[[0,1],[2,3]]⟩
def exO:Frm:=stockedF exP 1 3
end Go.Sh
namespace Go.En
open Go Go.Ab Go.Sh
def cPlc (x:Plc):List AV:=[iv x.column,aInts x.set,iv x.one,iv x.other]
abbrev vPlc (x:Plc):AV := .agg (cPlc x)
end Go.En
namespace Go.Ab
open Go Go.RowKit Go.Proofs Go.Sh Go.En
def ou31 (f:Frm):OutSpec:={ args:=[vFrm f],pre:=smallF f,res := .agg [iv f.length,iv f.slack,.vec 0,.vec 1,.vec 2],hout:=[(0,.vec 65 2 f.strips.length (fun i=>cStrip (stp f i))),(1,.vec 46 3 f.pieces.length (fun i=>cPiece (pc f i))),(2,.vec 27 1 f.columns.length (fun i=>[aInts (col f i)]))] }
def h31 (f:Frm):Hint:={ X:=Nat,M:=fun i=>[(4,iv i)],H:=fun i=>[(120,.cells 26 [iv f.length,iv f.slack,.vec 72,.vec 104,.vec 5000]),(5000,.vec 27 1 i (fun k=>[aInts (col f k)]))],I:=fun i=>i<=f.columns.length,mu:=fun i=>f.columns.length - i,x0:=(0:Nat),nx:=fun i=>i + 1 }
def s31o (f:Frm) (id:Nat):CallSpec:=(ou31 f).at [(0,id),(1,id + 1),(2,id + 2)]
def s49 (f:Frm) (k m:Int):CallSpec:={ args:=[vFrm f,iv k,iv m],res:=vFrm (stockedF f k.toNat m),pre:=smallF f/\0<=k/\k < f.strips.length }
def c49 (f:Frm) (k m:Int) (id:Nat):CallSpec:=s31o f id
def s82:CallSpec:={ args:=[],res := .tup [vFrm exP,vFrm exO] }
def c82:CallSpec:=s49 exP 1 3
def s82o (f o:Frm):CallSpec:={ args:=[],res := .tup [vFrm f,vFrm o],pre:=f=exP/\o=exO }
def sw20 (f o:Frm):CallSpec:={ args:=[],res:=bv true,pre:=f=exP/\o=exO }
def c20a (f o:Frm):CallSpec:=s82o f o
def c20b (f o:Frm):CallSpec:=s36 o 0 [2,0,0]
def c20c (f o:Frm):CallSpec:=s40 (refuseL f) [3]
def s20:CallSpec:={ args:=[],res:=bv true }
def s3 (f:Frm) (x:Plc):CallSpec:={ args:=[vFrm f,vPlc x],res:=bv true,pre:=fitsF f/\x.set.length<=big }
end Go.Ab
namespace Go.Ab
open Go Go.RowKit Go.Proofs Go.Sh Go.En
theorem wo31 (f:Frm)
  (o0:smallF f->0 + List.length (Frm.strips f)<=65536)
  (o1:smallF f->0 + List.length (Frm.pieces f)<=65536)
  (o2:smallF f->0=(↑0:Int))
  (o3:smallF f->0<=List.length (Frm.columns f))
  (o4:smallF f -> ∀ (x0:Nat),x0<=f.columns.length->decide ((x0:Int) < (↑(f.columns.length):Int))=true->0<=(x0:Int))
  (o5:smallF f -> ∀ (x0:Nat),x0<=f.columns.length->decide ((x0:Int) < (↑(f.columns.length):Int))=true->(x0:Int) < (↑(f.columns.length):Int))
  (o6:smallF f -> ∀ (x0:Nat),x0<=f.columns.length->decide ((x0:Int) < (↑(f.columns.length):Int))=true->0 + (col f x0).length<=65536)
  (o7:smallF f -> ∀ (x0:Nat),x0<=f.columns.length->decide ((x0:Int) < (↑(f.columns.length):Int))=true->x0 + 1<=65536)
  (o8:smallF f -> ∀ (x0:Nat),x0<=f.columns.length->decide ((x0:Int) < (↑(f.columns.length):Int))=true->inI ((x0:Int) + 1))
  (o9:smallF f -> ∀ (x0:Nat),x0<=f.columns.length->decide ((x0:Int) < (↑(f.columns.length):Int))=true->(x0:Int) + 1=(↑(x0 + 1):Int))
  (o10:smallF f -> ∀ (x0:Nat),x0<=f.columns.length->decide ((x0:Int) < (↑(f.columns.length):Int))=true -> ∀ (i2:Nat),i2 < x0 + 1->catF x0 (fun (k:Nat)=>[aInts (col f k)]) (fun (j:Nat)=>List.getD [[AV.sl 1 (0 + (col f x0).length) fun (i:Nat)=>[iv ((col f x0).getD i 0)]]] j (TI.za ti27)) i2 = [aInts (col f i2)])
  (o11:smallF f -> ∀ (x0:Nat),x0<=f.columns.length->decide ((x0:Int) < (↑(f.columns.length):Int))=true->x0 + 1<=f.columns.length)
  (o12:smallF f -> ∀ (x0:Nat),x0<=f.columns.length->decide ((x0:Int) < (↑(f.columns.length):Int))=true->f.columns.length - (x0 + 1) < f.columns.length - x0)
  (o13:smallF f -> ∀ (x0:Nat),x0<=f.columns.length->decide ((x0:Int) < (↑(f.columns.length):Int))=false->0 + f.strips.length=f.strips.length)
  (o14:smallF f -> ∀ (x0:Nat),x0<=f.columns.length->decide ((x0:Int) < (↑(f.columns.length):Int))=false->0 + f.pieces.length=f.pieces.length)
  (o15:smallF f -> ∀ (x0:Nat),x0<=f.columns.length->decide ((x0:Int) < (↑(f.columns.length):Int))=false->x0=f.columns.length)
  (l:List (Nat × Nat)) (hl:l.map (·.1)=(OutSpec.hout (ou31 f)).map (·.1)) (hnd:(l.map (·.2)).Nodup) :
  Triple Try.prog 31 (OutSpec.at (ou31 f) l):=by
 refine triple_out Try.func31 rfl Try.call31 T0_ok _ _ _ _ l rfl (Nat.le_of_ble_eq_true (by kernel_rfl)) hl hnd (by kernel_rfl) (by kernel_rfl) (by kernel_rfl) ?_
 intro hpre C hC hE
 obtain ⟨P,w0,E0,av,hA,ro,df⟩:=C
 obtain ⟨rfl,rfl,rfl⟩:=hC
 refine swp_seq ?_
 refine zR [1,2] [0,8] (Ak 2 tv) ?_
 refine swp_seq ?_
 refine zR [1,2,3] [0,8,120,72,104] (Ak 7 (An (o0 hpre) (Ak 3 (An (o1 hpre) (Ak 3 tv))))) ?_
 refine swp_seq ?_
 refine swp_seq ?_
 refine zR [1,2,3,4] [0,8,120,72,104] (Ak 1 tv) ?_
 refine swp_block ?_
 refine zL (Hint.ann (h31 f) [(1,AV.ptr 0 []),(2,AV.ptr 8 []),(3,AV.ptr 120 [])] [(0,OB.cells 26 (cFrm f)),(8,OB.cells 26 [iv 0,iv 0,nilv,nilv,nilv]),(72,OB.vec 65 2 (0 + f.strips.length) fun (i:Nat)=>cStrip (stp f i)),(104,OB.vec 46 3 (0 + f.pieces.length) fun (i:Nat)=>cPiece (pc f i))] 10144) (zE hE [] [(0,.same 0),(8,.same 8),(120,.same 120),(72,.same 72),(104,.same 104),(5000,.nil)] [] [0,8,72,104] (An (An (An (zr (some (Src.same 0))) (zr nilP)) (An (An (zr (some (Src.same 8))) (zr nilP)) (An (An (zr (some (Src.same 120))) (zr nilP)) (An (An (ci (o2 hpre)) (zr nilN)) tv)))) (An (An (An (zr (OB.cells 26 (cFrm f))) (zr true)) (An (An (zr (OB.cells 26 [iv 0,iv 0,nilv,nilv,nilv])) (zr true)) (An (An (zr (OB.vec 65 2 (0 + f.strips.length) fun (i:Nat)=>cStrip (stp f i))) (zr true)) (An (An (zr (OB.vec 46 3 (0 + f.pieces.length) fun (i:Nat)=>cPiece (pc f i))) (zr true)) (An (An (zr 26) (An (An (An (zr (iv f.length)) (zr nilN)) (An (An (zr (iv f.slack)) (zr nilN)) (An (zr (some (Src.same 72))) (An (zr (some (Src.same 104))) (An (zr (some Src.nil)) tv))))) (zr true))) (An (zr 0) tv)))))) (An (zr true) (zr true))))) (o3 hpre) (fun (x0:Nat) hx0 => ?_)
 refine swp_seq ?_
 refine swp_seq ?_
 refine zR [1,2,3,4,22] [0,8,120,72,104,5000] (Ak 5 tv) ?_
 refine zI (decide ((x0:Int) < (↑(f.columns.length):Int))) (fun y1 => ?_) (fun y1 => ?_)
 ·refine swp_skip ?_
  refine swp_seq ?_
  refine swp_block ?_
  refine zR [1,2,3,4] [0,8,120,72,104,10264] (Ak 6 (An (An (o4 hpre x0 hx0 y1) (o5 hpre x0 hx0 y1)) (Ak 1 (An (o6 hpre x0 hx0 y1) (Ak 1 (An (o7 hpre x0 hx0 y1) (Ak 2 tv))))))) ?_
  refine zR [1,2,3,4] [0,8,120,72,104,10264] (Ak 1 (An (o8 hpre x0 hx0 y1) (Ak 1 tv))) ?_
  exact zn (zE hE [] [(0,.same 0),(8,.same 8),(120,.same 120),(72,.same 72),(104,.same 104),(5000,.same 10264)] [] [0,8,72,104] (An (An (An (zr (some (Src.same 0))) (zr nilP)) (An (An (zr (some (Src.same 8))) (zr nilP)) (An (An (zr (some (Src.same 120))) (zr nilP)) (An (An (ci (o9 hpre x0 hx0 y1)) (zr nilN)) tv)))) (An (An (An (zr (OB.cells 26 (cFrm f))) (zr true)) (An (An (zr (OB.cells 26 [iv 0,iv 0,nilv,nilv,nilv])) (zr true)) (An (An (zr (OB.vec 65 2 (0 + f.strips.length) fun (i:Nat)=>cStrip (stp f i))) (zr true)) (An (An (zr (OB.vec 46 3 (0 + f.pieces.length) fun (i:Nat)=>cPiece (pc f i))) (zr true)) (An (An (zr 26) (An (An (An (zr (iv f.length)) (zr nilN)) (An (An (zr (iv f.slack)) (zr nilN)) (An (zr (some (Src.same 72))) (An (zr (some (Src.same 104))) (An (zr (some (Src.same 10264))) tv))))) (zr true))) (An (An (zr 27) (An (zr 1) (An (zr (x0 + 1)) (fun (i2:Nat)=>(fun (y3:i2 < x0 + 1)=>(o10 hpre x0 hx0 y1 i2 y3)))))) tv)))))) (An (zr true) (zr true))))) (o11 hpre x0 hx0 y1) (o12 hpre x0 hx0 y1)
 ·refine swp_exit ?_
  refine swp_seq ?_
  refine zR [2] [8,72,104,5000] (Ak 2 tv) ?_
  refine swp_ret ?_
  exact zO (ASt.mk [(2,AV.ptr 90 [])] [(90,OB.cells 26 [iv f.length,iv f.slack,AV.vec 0,AV.vec 1,AV.vec 2]),(0,OB.vec 65 2 f.strips.length fun (i:Nat)=>cStrip (stp f i)),(1,OB.vec 46 3 f.pieces.length fun (i:Nat)=>cPiece (pc f i)),(2,OB.vec 27 1 f.columns.length fun (i:Nat)=>[aInts (col f i)])] 100) (zE hE [] [(90,.same 8),(0,.same 72),(1,.same 104),(2,.same 5000)] [] [] (An (An (An (zr (some (Src.same 8))) (zr nilP)) tv) (An (An (An (zr 26) (An (An (An (zr (iv f.length)) (zr nilN)) (An (An (zr (iv f.slack)) (zr nilN)) (An (zr (some (Src.same 72))) (An (zr (some (Src.same 104))) (An (zr (some (Src.same 5000))) tv))))) (zr true))) (An (An (zr 65) (An (zr 2) (An (o13 hpre x0 hx0 y1) (fun (i4:Nat)=>(fun (y5:i4 < 0 + f.strips.length)=>(zr (cStrip (stp f i4)))))))) (An (An (zr 46) (An (zr 3) (An (o14 hpre x0 hx0 y1) (fun (i6:Nat)=>(fun (y7:i6 < 0 + f.pieces.length)=>(zr (cPiece (pc f i6)))))))) (An (An (zr 27) (An (zr 1) (An (o15 hpre x0 hx0 y1) (fun (i8:Nat)=>(fun (y9:i8 < x0)=>(zr ([aInts (col f i8)]))))))) tv)))) (An (zr true) (zr true))))) (An (Ak 1 tv) (An (zr (AV.agg [iv f.length,iv f.slack,AV.vec 0,AV.vec 1,AV.vec 2])) (An (zr (some (OB.vec 65 2 f.strips.length fun (i:Nat)=>cStrip (stp f i)))) (An (zr (some (OB.vec 46 3 f.pieces.length fun (i:Nat)=>cPiece (pc f i)))) (An (zr (some (OB.vec 27 1 f.columns.length fun (i:Nat)=>[aInts (col f i)]))) tv)))))
theorem to31 (f:Frm) (l:List (Nat × Nat)) (hl:l.map (·.1) = [0,1,2]) (hnd:(l.map (·.2)).Nodup):Triple Try.prog 31 ((ou31 f).at l):=by
 apply wo31 (l:=l) (hl:=hl) (hnd:=hnd)
 all_goals (intro hp; obtain ⟨a1,a2,a3,a4⟩:=hp)
 case o6=>intro x hx hl; have:=a4 x; show _<=_; omega
 case o10 =>
  intro x hx hl i hi
  refine catF_idx (fun k=>[aInts (col f k)]) ?_ hi
  show [AV.sl 1 (0 + (col f x).length) _] = [aInts (col f x)]
  rw [Nat.zero_add]; rfl
 all_goals (first | omega | rfl | skip)
 all_goals (intro x hx hl; simp only [decide_eq_true_eq,decide_eq_false_iff_not] at hl)
 all_goals (first | omega | (simp only [inI]; omega))
theorem t31o (f:Frm) (id:Nat):Triple Try.prog 31 (s31o f id):=to31 f _ rfl (by simp)
theorem w49 (f:Frm) (k:Int) (m:Int)
  (o0:smallF f/\0<=k/\k < (↑(f.strips.length):Int)->0<=k)
  (o1:smallF f/\0<=k/\k < (↑(f.strips.length):Int)->k < (↑(f.strips.length):Int))
  (o2:smallF f/\0<=k/\k < (↑(f.strips.length):Int)->k.toNat < f.strips.length)
  (o3:smallF f/\0<=k/\k < (↑(f.strips.length):Int)->0<=k)
  (o4:smallF f/\0<=k/\k < (↑(f.strips.length):Int)->k < (↑(f.strips.length):Int))
  (o5:smallF f/\0<=k/\k < (↑(f.strips.length):Int)->k.toNat < f.strips.length)
  (o6:smallF f/\0<=k/\k < (↑(f.strips.length):Int)->f.length=(stockedF f k.toNat m).length)
  (o7:smallF f/\0<=k/\k < (↑(f.strips.length):Int)->f.slack=(stockedF f k.toNat m).slack)
  (o8:smallF f/\0<=k/\k < (↑(f.strips.length):Int)->f.strips.length=(stockedF f k.toNat m).strips.length)
  (o9:smallF f/\0<=k/\k < (↑(f.strips.length):Int) -> ∀ (i1:Nat),i1 < (stockedF f k.toNat m).strips.length->Decidable.rec (fun (h:¬i1=k.toNat)=>cStrip (stp f i1)) (fun (h:i1=k.toNat)=>[iv (stp f k.toNat).thick,iv m] ++ []) (instDecidableEqNat i1 k.toNat)=cStrip (stp (stockedF f k.toNat m) i1))
  (o10:smallF f/\0<=k/\k < (↑(f.strips.length):Int)->f.pieces.length=(stockedF f k.toNat m).pieces.length)
  (o11:smallF f/\0<=k/\k < (↑(f.strips.length):Int) -> ∀ (i3:Nat),i3 < (stockedF f k.toNat m).pieces.length->cPiece (pc f i3)=cPiece (pc (stockedF f k.toNat m) i3))
  (o12:smallF f/\0<=k/\k < (↑(f.strips.length):Int)->f.columns.length=(stockedF f k.toNat m).columns.length)
  (o13:smallF f/\0<=k/\k < (↑(f.strips.length):Int) -> ∀ (i5:Nat),i5 < (stockedF f k.toNat m).columns.length -> [aInts (col f i5)] = [aInts (col (stockedF f k.toNat m) i5)]) :
  Triple Try.prog 49 (s49 f k m):=by
 refine triple_of Try.func49 rfl Try.call49 T0_ok _ rfl rfl rfl rfl (Nat.le_of_ble_eq_true (by kernel_rfl)) (fun _ _ _ _ h=>h) ?_
 intro hpre C hC _ hE
 obtain ⟨P,w0,E0,av,hA,ro,df⟩:=C
 obtain ⟨rfl,rfl,rfl⟩:=hC
 refine swp_seq ?_
 refine zR [1,2,3,6] [0,8] (Ak 2 tv) ?_
 refine swp_seq ?_
 refine zC ([(1,CallSpec.eq (c49 f k m 24) [true])]) [1,2,6,7] [8,32,24,25,26] (Ak 1 (An (An (An (zr (AV.agg (cFrm f))) tv) (An (t31o (f) (24)) (An hpre.1 (Ak 1 (fun (i0:Env)=>tv))))) (Ak 2 tv))) ?_
 refine swp_seq ?_
 refine zR [1,2,6,7,8] [8,32,88,24,25,26] (Ak 3 (An (An (o0 hpre) (o1 hpre)) (An (An (o2 hpre) tv) (Ak 2 tv)))) ?_
 refine swp_seq ?_
 refine zR [1,6,7,8] [8,32,88,24,25,26] (Ak 3 tv) ?_
 refine swp_seq ?_
 refine zR [6,7] [8,32,24,25,26] (Ak 4 (An (An (o3 hpre) (o4 hpre)) (An (An (o5 hpre) tv) tv))) ?_
 refine swp_seq ?_
 refine zR [6] [8,24,25,26] (Ak 2 tv) ?_
 refine swp_ret ?_
 exact zT [24,25,26] (An (Ak 1 tv) (An (An (An (ci (o6 hpre)) (zr nilN)) (An (An (ci (o7 hpre)) (zr nilN)) (An (An (zr 2) (An (o8 hpre) (fun (i1:Nat)=>(fun (y2:i1 < (stockedF f k.toNat m).strips.length)=>(o9 hpre i1 y2))))) (An (An (zr 3) (An (o10 hpre) (fun (i3:Nat)=>(fun (y4:i3 < (stockedF f k.toNat m).pieces.length)=>(o11 hpre i3 y4))))) (An (An (zr 1) (An (o12 hpre) (fun (i5:Nat)=>(fun (y6:i5 < (stockedF f k.toNat m).columns.length)=>(o13 hpre i5 y6))))) tv))))) (An (zr true) (An (zr true) (zr true)))))
theorem stp_stocked {f:Frm} {k:Nat} (hk:k < f.strips.length) (m:Int) (j:Nat):stp (stockedF f k m) j=if j=k then { stp f k with many:=m } else stp f j:=by
 show (f.strips.set k _).getD j default=_
 rw [List.getD_eq_getElem?_getD,List.getElem?_set]
 by_cases e:k=j
 ·subst e; rw [if_pos rfl,if_pos hk,if_pos rfl]; rfl
 ·rw [if_neg e,if_neg (fun h=>e h.symm),stp,List.getD_eq_getElem?_getD]
theorem t49 (f:Frm) (k m:Int):Triple Try.prog 49 (s49 f k m):=by
 apply w49
 all_goals (rintro ⟨hp,h1,h2⟩)
 case o8=>exact List.length_set.symm
 case o9 =>
  intro i hi
  rw [stp_stocked (by omega)]
  refine rec_ei (fun h => ?_) (fun h => ?_)
  ·rw [if_neg h]
  ·rw [if_pos h]; rfl
 all_goals (first | omega | rfl | (intro i hi; rfl))
theorem w82 
  (o0:60=Frm.length exP)
  (o1:2=Frm.slack exP)
  (o2:∀ (i0:Nat),i0 < exP.strips.length->List.getD [[iv 5,iv 2],[iv 3,iv 2],[iv 18,iv 1]] i0 (TI.za ti65)=cStrip (stp exP i0))
  (o3:∀ (i2:Nat),i2 < exP.pieces.length->List.getD [[iv 20,iv 21,iv 9],[iv 30,iv 30,iv 5],[iv 40,iv 41,iv 7],[iv 12,iv 13,iv 4]] i2 (TI.za ti46)=cPiece (pc exP i2))
  (o4:∀ (i4:Nat),i4 < exP.columns.length->List.getD [[AV.sl 1 2 fun (j:Nat)=>List.getD [[iv 0],[iv 1]] j (TI.za ti3)],[AV.sl 1 2 fun (j:Nat)=>List.getD [[iv 2],[iv 3]] j (TI.za ti3)]] i4 (TI.za ti27) = [aInts (col exP i4)])
  (o5:smallF exP)
  (o6:Frm.length (stockedF exP 1 3)=Frm.length exO)
  (o7:Frm.slack (stockedF exP 1 3)=Frm.slack exO)
  (o8:∀ (i13:Nat),i13 < exO.strips.length->cStrip (stp (stockedF exP 1 3) i13)=cStrip (stp exO i13))
  (o9:∀ (i15:Nat),i15 < exO.pieces.length->cPiece (pc (stockedF exP 1 3) i15)=cPiece (pc exO i15))
  (o10:∀ (i17:Nat),i17 < exO.columns.length -> [aInts (col (stockedF exP 1 3) i17)] = [aInts (col exO i17)]) :
  Triple Try.prog 82 (s82):=by
 refine triple_of Try.func82 rfl Try.call82 T0_ok _ rfl rfl rfl rfl (Nat.le_of_ble_eq_true (by kernel_rfl)) (fun _ _ _ _ h=>h) ?_
 intro _ C hC _ hE
 obtain ⟨P,w0,E0,av,hA,ro,df⟩:=C
 obtain ⟨rfl,rfl,rfl⟩:=hC
 refine swp_seq ?_
 refine zR [0,1] [0,8] (Ak 2 tv) ?_
 refine swp_seq ?_
 refine zR [0,1] [0,8,40,112,136] (Ak 18 tv) ?_
 refine swp_seq ?_
 refine swp_ent (zE (st2:=ASt.mk [(0,AV.ptr 0 []),(1,AV.ptr 8 [])] [(0,OB.cells 26 (cFrm exP)),(8,OB.cells 26 [iv 0,iv 0,nilv,nilv,nilv])] 160) hE [40,112,136] [(0,.same 0),(8,.same 8)] [] [8] (An (An (An (zr (some (Src.same 0))) (zr nilP)) (An (An (zr (some (Src.same 8))) (zr nilP)) tv)) (An (An (An (zr 26) (An (An (An (ci (o0)) (zr nilN)) (An (An (ci (o1)) (zr nilN)) (An (An (zr 2) (An (by decide:3=exP.strips.length) (fun (i0:Nat)=>(fun (y1:i0 < exP.strips.length)=>(o2 i0 y1))))) (An (An (zr 3) (An (by decide:4=exP.pieces.length) (fun (i2:Nat)=>(fun (y3:i2 < exP.pieces.length)=>(o3 i2 y3))))) (An (An (zr 1) (An (by decide:2=exP.columns.length) (fun (i4:Nat)=>(fun (y5:i4 < exP.columns.length)=>(o4 i4 y5))))) tv))))) (zr true))) (An (An (zr (OB.cells 26 [iv 0,iv 0,nilv,nilv,nilv])) (zr true)) tv)) (An (zr true) (zr true))))) ?_
 refine zC ([(2,CallSpec.eq c82 [true,true,true])]) [0,1] [0,8] (Ak 2 (An (An (An (zr (AV.agg (cFrm exP))) (An (zr (iv 1)) (An (zr (iv 3)) tv))) (An (t49 (exP) (1) (3)) (An (An (o5) (An (by decide:Int.ofNat 0<=Int.ofNat 1) (by decide:1 < (↑(exP.strips.length):Int)))) (Ak 1 (fun (i6:Env)=>tv))))) (Ak 2 tv))) ?_
 refine swp_ret ?_
 exact zT [] (An (Ak 2 tv) (An (An (An (An (zr (iv exP.length)) (zr nilN)) (An (An (zr (iv exP.slack)) (zr nilN)) (An (An (zr 2) (An (zr exP.strips.length) (fun (i7:Nat)=>(fun (y8:i7 < exP.strips.length)=>(zr (cStrip (stp exP i7))))))) (An (An (zr 3) (An (zr exP.pieces.length) (fun (i9:Nat)=>(fun (y10:i9 < exP.pieces.length)=>(zr (cPiece (pc exP i9))))))) (An (An (zr 1) (An (zr exP.columns.length) (fun (i11:Nat)=>(fun (y12:i11 < exP.columns.length)=>(zr ([aInts (col exP i11)])))))) tv))))) (An (An (An (ci (o6)) (zr nilN)) (An (An (ci (o7)) (zr nilN)) (An (An (zr 2) (An (by decide:(stockedF exP 1 3).strips.length=exO.strips.length) (fun (i13:Nat)=>(fun (y14:i13 < exO.strips.length)=>(o8 i13 y14))))) (An (An (zr 3) (An (by decide:(stockedF exP 1 3).pieces.length=exO.pieces.length) (fun (i15:Nat)=>(fun (y16:i15 < exO.pieces.length)=>(o9 i15 y16))))) (An (An (zr 1) (An (by decide:(stockedF exP 1 3).columns.length=exO.columns.length) (fun (i17:Nat)=>(fun (y18:i17 < exO.columns.length)=>(o10 i17 y18))))) tv))))) tv)) (An (zr true) (An (zr true) (zr true)))))
theorem small_frm {f:Frm} (h:decide (f.strips.length<=64) && decide (f.pieces.length<=64) && decide (f.columns.length<=64) && f.columns.all (fun c=>decide (c.length<=64))=true):smallF f:=by
 simp only [Bool.and_eq_true,decide_eq_true_eq] at h
 refine ⟨h.1.1.1,h.1.1.2,h.1.2,fun i => ?_⟩
 by_cases hi:i < f.columns.length
 ·have:=idx_all [] h.2 hi
  exact of_decide_eq_true this
 ·have:col f i = []:=getD_ge _ _ (by omega)
  rw [this]; exact Nat.zero_le _
theorem small_exP:smallF exP:=small_frm (by decide)
theorem small_exO:smallF exO:=small_frm (by decide)
theorem sl_ext {sz n:Nat} {f g:Nat->List AV} (h:∀ j,f j=g j):AV.sl sz n f = .sl sz n g:=by rw [funext h]
theorem t82:Triple Try.prog 82 s82:=by
 apply w82
 case o2 =>
  intro i hi
  have:i=0 ∨ i=1 ∨ i=2:=by simp [exP] at hi; omega
  rcases this with rfl | rfl | rfl <;> rfl
 case o3 =>
  intro i hi
  have:i=0 ∨ i=1 ∨ i=2 ∨ i=3:=by simp [exP] at hi; omega
  rcases this with rfl | rfl | rfl | rfl <;> rfl
 case o4 =>
  intro i hi
  have:i=0 ∨ i=1:=by simp [exP] at hi; omega
  rcases this with rfl | rfl
  ·exact congrArg (fun z=>[z]) (sl_ext fun j=>by rcases j with _ | _ | j <;> rfl)
  ·exact congrArg (fun z=>[z]) (sl_ext fun j=>by rcases j with _ | _ | j <;> rfl)
 case o5=>exact small_exP
 all_goals (first | rfl | (intro i hi; rfl) | decide)
theorem t82o (f o:Frm):Triple Try.prog 82 (s82o f o):=⟨t82.1,fun h=>by obtain ⟨rfl,rfl⟩:=h; exact t82.2 trivial⟩
theorem w20 (f:Frm) (o:Frm)
  (o0:f=exP/\o=exO->smallF f)
  (o1:f=exP/\o=exO->smallF o)
  (o2:f=exP/\o=exO->smallF f)
  (o3:f=exP/\o=exO -> ∀ (i4:Nat),i4 < List.length [2,0,0]->List.getD [[iv 2],[iv 0],[iv 0]] i4 (TI.za ti3) = [iv (List.getD [2,0,0] i4 0)])
  (o4:f=exP/\o=exO->smallF o)
  (o5:f=exP/\o=exO->smallF o)
  (o6:f=exP/\o=exO->smallF f)
  (o7:f=exP/\o=exO->(bif bif bif bif bif bif bif decide (roomE f 0=0) then decide (stripsE o=0) else false then decide (refuseE f=0) else false then decide (openF o (fitsG o 0 [2,0,0])=0) else false then decide (growE o 0=0) else false then decide (openF f (gapG f 1 3)=0) else false then decide ((roomR f 0).lo=8) && (decide ((roomR f 0).hi=9) && true) else false then decide (stripsN o=4) else false)=true -> ∀ (i53:Nat),i53 < List.length [3]->List.getD [[iv 3]] i53 (TI.za ti3) = [iv (List.getD [3] i53 0)])
  (o8:f=exP/\o=exO->(bif bif bif bif bif bif bif decide (roomE f 0=0) then decide (stripsE o=0) else false then decide (refuseE f=0) else false then decide (openF o (fitsG o 0 [2,0,0])=0) else false then decide (growE o 0=0) else false then decide (openF f (gapG f 1 3)=0) else false then decide ((roomR f 0).lo=8) && (decide ((roomR f 0).hi=9) && true) else false then decide (stripsN o=4) else false)=true->(refuseL f).length<=big)
  (o9:f=exP/\o=exO->(bif bif bif bif bif bif bif bif bif bif bif decide (roomE f 0=0) then decide (stripsE o=0) else false then decide (refuseE f=0) else false then decide (openF o (fitsG o 0 [2,0,0])=0) else false then decide (growE o 0=0) else false then decide (openF f (gapG f 1 3)=0) else false then decide ((roomR f 0).lo=8) && (decide ((roomR f 0).hi=9) && true) else false then decide (stripsN o=4) else false then sameInts (refuseL f) [3] else false then decide (fitsP o 0 [2,0,0]=3) else false then decide (growN o 0=22) else false then decide ((gapR f 1 3).lo=19) && (decide ((gapR f 1 3).hi=21) && true) else false)=true) :
  Triple Try.prog 20 (sw20 f o):=by
 refine triple_of Try.func20 rfl Try.call20 T0_ok _ rfl rfl rfl rfl (Nat.le_of_ble_eq_true (by kernel_rfl)) (fun _ _ _ _ h=>h) ?_
 intro hpre C hC _ hE
 obtain ⟨P,w0,E0,av,hA,ro,df⟩:=C
 obtain ⟨rfl,rfl,rfl⟩:=hC
 refine swp_seq ?_
 refine zR [] [] (Ak 1 tv) ?_
 refine swp_seq ?_
 refine zC ([(0,CallSpec.eq (c20a f o) [])]) [1,2] [40,48] (An (Ak 1 (An (t82o (f) (o)) (An (An hpre.1 hpre.2) (Ak 1 (fun (i0:Env)=>tv))))) (Ak 7 tv)) ?_
 refine swp_seq ?_
 refine zC ([(1,CallSpec.eq (s22 f 0) [true,true])]) [1,2,3,4] [40,48,112] (Ak 1 (An (An (An (zr (AV.agg (cFrm f))) (An (zr (iv 0)) tv)) (An (t22 (f) (0)) (An (o0 hpre) (Ak 1 (fun (i1:Env)=>tv))))) (Ak 6 tv))) ?_
 refine swp_seq ?_
 refine zC ([(1,CallSpec.eq (s59 o) [true])]) [1,2,3,4,5,6] [40,48,112] (Ak 1 (An (An (An (zr (AV.agg (cFrm o))) tv) (An (t59 (o)) (An (o1 hpre) (Ak 1 (fun (i2:Env)=>tv))))) (Ak 5 tv))) ?_
 refine swp_seq ?_
 refine zC ([(1,CallSpec.eq (s42 f) [true])]) [1,2,3,4,5,6,7,8] [40,48,112] (Ak 1 (An (An (An (zr (AV.agg (cFrm f))) tv) (An (t42 (f)) (An (o2 hpre) (Ak 1 (fun (i3:Env)=>tv))))) (Ak 5 tv))) ?_
 refine swp_seq ?_
 refine zC ([(2,CallSpec.eq (c20b f o) [true,true,false])]) [1,2,3,4,5,6,7,8,9,10] [40,48,112] (Ak 2 (An (An (An (zr (AV.agg (cFrm o))) (An (zr (iv 0)) (An (An (zr 1) (An (zr 3) (fun (i4:Nat)=>(fun (y5:i4 < List.length [2,0,0])=>(o3 hpre i4 y5))))) tv))) (An (t36 (o) (0) ([2,0,0])) (An (An (o4 hpre) (by decide:List.length [2,0,0]<=64)) (Ak 1 (fun (i6:Env)=>tv))))) (Ak 5 tv))) ?_
 refine swp_seq ?_
 refine zC ([(1,CallSpec.eq (s26 o 0) [true,true])]) [1,3,4,5,6,7,8,9,10,11,12] [40,112] (Ak 1 (An (An (An (zr (AV.agg (cFrm o))) (An (zr (iv 0)) tv)) (An (t26 (o) (0)) (An (o5 hpre) (Ak 1 (fun (i7:Env)=>tv))))) (Ak 5 tv))) ?_
 refine swp_seq ?_
 refine zC ([(1,CallSpec.eq (s48 f 1 3) [true,true,true])]) [3,4,5,6,7,8,9,10,11,12,13,14] [112,408] (Ak 1 (An (An (An (zr (AV.agg (cFrm f))) (An (zr (iv 1)) (An (zr (iv 3)) tv))) (An (t48 (f) (1) (3)) (An (o6 hpre) (Ak 1 (fun (i8:Env)=>tv))))) (Ak 6 tv))) ?_
 refine swp_seq ?_
 refine zC ([(34,CallSpec.eq (c20c f o) [false,false])]) [0] [] (Ak 3 (An (fun (y9:decide (roomE f 0=0)=true)=>(An (Ak 1 tv) tv)) (An (fun (y10:decide (roomE f 0=0)=true)=>(An (An (fun (y11:decide (roomE f 0=0)=true)=>y10) (Ak 1 tv)) tv)) (An (An (fun (y12:decide (roomE f 0=0)=true)=>y12) (fun (y13:decide (roomE f 0=0)=false)=>tv)) (Ak 1 (An (fun (y14:(bif decide (roomE f 0=0) then decide (stripsE o=0) else false)=true)=>(An (Ak 1 tv) tv)) (An (fun (y15:(bif decide (roomE f 0=0) then decide (stripsE o=0) else false)=true)=>(An (An (fun (y16:(bif decide (roomE f 0=0) then decide (stripsE o=0) else false)=true)=>y15) (Ak 1 tv)) tv)) (An (An (fun (y17:(bif decide (roomE f 0=0) then decide (stripsE o=0) else false)=true)=>y17) (fun (y18:(bif decide (roomE f 0=0) then decide (stripsE o=0) else false)=false)=>tv)) (Ak 1 (An (fun (y19:(bif bif decide (roomE f 0=0) then decide (stripsE o=0) else false then decide (refuseE f=0) else false)=true)=>(An (Ak 1 tv) tv)) (An (fun (y20:(bif bif decide (roomE f 0=0) then decide (stripsE o=0) else false then decide (refuseE f=0) else false)=true)=>(An (An (fun (y21:(bif bif decide (roomE f 0=0) then decide (stripsE o=0) else false then decide (refuseE f=0) else false)=true)=>y20) (Ak 1 tv)) tv)) (An (An (fun (y22:(bif bif decide (roomE f 0=0) then decide (stripsE o=0) else false then decide (refuseE f=0) else false)=true)=>y22) (fun (y23:(bif bif decide (roomE f 0=0) then decide (stripsE o=0) else false then decide (refuseE f=0) else false)=false)=>tv)) (Ak 1 (An (fun (y24:(bif bif bif decide (roomE f 0=0) then decide (stripsE o=0) else false then decide (refuseE f=0) else false then decide (openF o (fitsG o 0 [2,0,0])=0) else false)=true)=>(An (Ak 1 tv) tv)) (An (fun (y25:(bif bif bif decide (roomE f 0=0) then decide (stripsE o=0) else false then decide (refuseE f=0) else false then decide (openF o (fitsG o 0 [2,0,0])=0) else false)=true)=>(An (An (fun (y26:(bif bif bif decide (roomE f 0=0) then decide (stripsE o=0) else false then decide (refuseE f=0) else false then decide (openF o (fitsG o 0 [2,0,0])=0) else false)=true)=>y25) (Ak 1 tv)) tv)) (An (An (fun (y27:(bif bif bif decide (roomE f 0=0) then decide (stripsE o=0) else false then decide (refuseE f=0) else false then decide (openF o (fitsG o 0 [2,0,0])=0) else false)=true)=>y27) (fun (y28:(bif bif bif decide (roomE f 0=0) then decide (stripsE o=0) else false then decide (refuseE f=0) else false then decide (openF o (fitsG o 0 [2,0,0])=0) else false)=false)=>tv)) (Ak 1 (An (fun (y29:(bif bif bif bif decide (roomE f 0=0) then decide (stripsE o=0) else false then decide (refuseE f=0) else false then decide (openF o (fitsG o 0 [2,0,0])=0) else false then decide (growE o 0=0) else false)=true)=>(An (Ak 1 tv) tv)) (An (fun (y30:(bif bif bif bif decide (roomE f 0=0) then decide (stripsE o=0) else false then decide (refuseE f=0) else false then decide (openF o (fitsG o 0 [2,0,0])=0) else false then decide (growE o 0=0) else false)=true)=>(An (An (fun (y31:(bif bif bif bif decide (roomE f 0=0) then decide (stripsE o=0) else false then decide (refuseE f=0) else false then decide (openF o (fitsG o 0 [2,0,0])=0) else false then decide (growE o 0=0) else false)=true)=>y30) (Ak 1 tv)) tv)) (An (An (fun (y32:(bif bif bif bif decide (roomE f 0=0) then decide (stripsE o=0) else false then decide (refuseE f=0) else false then decide (openF o (fitsG o 0 [2,0,0])=0) else false then decide (growE o 0=0) else false)=true)=>y32) (fun (y33:(bif bif bif bif decide (roomE f 0=0) then decide (stripsE o=0) else false then decide (refuseE f=0) else false then decide (openF o (fitsG o 0 [2,0,0])=0) else false then decide (growE o 0=0) else false)=false)=>tv)) (Ak 1 (An (fun (y34:(bif bif bif bif bif decide (roomE f 0=0) then decide (stripsE o=0) else false then decide (refuseE f=0) else false then decide (openF o (fitsG o 0 [2,0,0])=0) else false then decide (growE o 0=0) else false then decide (openF f (gapG f 1 3)=0) else false)=true)=>(An (Ak 1 tv) tv)) (An (fun (y35:(bif bif bif bif bif decide (roomE f 0=0) then decide (stripsE o=0) else false then decide (refuseE f=0) else false then decide (openF o (fitsG o 0 [2,0,0])=0) else false then decide (growE o 0=0) else false then decide (openF f (gapG f 1 3)=0) else false)=true)=>(An (Ak 2 tv) tv)) (An (fun (y36:(bif bif bif bif bif decide (roomE f 0=0) then decide (stripsE o=0) else false then decide (refuseE f=0) else false then decide (openF o (fitsG o 0 [2,0,0])=0) else false then decide (growE o 0=0) else false then decide (openF f (gapG f 1 3)=0) else false)=true)=>(An (An (fun (y37:(bif bif bif bif bif decide (roomE f 0=0) then decide (stripsE o=0) else false then decide (refuseE f=0) else false then decide (openF o (fitsG o 0 [2,0,0])=0) else false then decide (growE o 0=0) else false then decide (openF f (gapG f 1 3)=0) else false)=true)=>y36) (An (fun (y38:(bif bif bif bif bif decide (roomE f 0=0) then decide (stripsE o=0) else false then decide (refuseE f=0) else false then decide (openF o (fitsG o 0 [2,0,0])=0) else false then decide (growE o 0=0) else false then decide (openF f (gapG f 1 3)=0) else false)=true)=>y36) tv)) tv)) (An (An (fun (y39:(bif bif bif bif bif decide (roomE f 0=0) then decide (stripsE o=0) else false then decide (refuseE f=0) else false then decide (openF o (fitsG o 0 [2,0,0])=0) else false then decide (growE o 0=0) else false then decide (openF f (gapG f 1 3)=0) else false)=true)=>y39) (fun (y40:(bif bif bif bif bif decide (roomE f 0=0) then decide (stripsE o=0) else false then decide (refuseE f=0) else false then decide (openF o (fitsG o 0 [2,0,0])=0) else false then decide (growE o 0=0) else false then decide (openF f (gapG f 1 3)=0) else false)=false)=>tv)) (Ak 1 (An (fun (y41:(bif bif bif bif bif bif decide (roomE f 0=0) then decide (stripsE o=0) else false then decide (refuseE f=0) else false then decide (openF o (fitsG o 0 [2,0,0])=0) else false then decide (growE o 0=0) else false then decide (openF f (gapG f 1 3)=0) else false then decide ((roomR f 0).lo=8) && (decide ((roomR f 0).hi=9) && true) else false)=true)=>(An (Ak 1 tv) tv)) (An (fun (y42:(bif bif bif bif bif bif decide (roomE f 0=0) then decide (stripsE o=0) else false then decide (refuseE f=0) else false then decide (openF o (fitsG o 0 [2,0,0])=0) else false then decide (growE o 0=0) else false then decide (openF f (gapG f 1 3)=0) else false then decide ((roomR f 0).lo=8) && (decide ((roomR f 0).hi=9) && true) else false)=true)=>(An (An (fun (y43:(bif bif bif bif bif bif decide (roomE f 0=0) then decide (stripsE o=0) else false then decide (refuseE f=0) else false then decide (openF o (fitsG o 0 [2,0,0])=0) else false then decide (growE o 0=0) else false then decide (openF f (gapG f 1 3)=0) else false then decide ((roomR f 0).lo=8) && (decide ((roomR f 0).hi=9) && true) else false)=true)=>y42) (Ak 1 tv)) tv)) (An (An (fun (y44:(bif bif bif bif bif bif decide (roomE f 0=0) then decide (stripsE o=0) else false then decide (refuseE f=0) else false then decide (openF o (fitsG o 0 [2,0,0])=0) else false then decide (growE o 0=0) else false then decide (openF f (gapG f 1 3)=0) else false then decide ((roomR f 0).lo=8) && (decide ((roomR f 0).hi=9) && true) else false)=true)=>y44) (fun (y45:(bif bif bif bif bif bif decide (roomE f 0=0) then decide (stripsE o=0) else false then decide (refuseE f=0) else false then decide (openF o (fitsG o 0 [2,0,0])=0) else false then decide (growE o 0=0) else false then decide (openF f (gapG f 1 3)=0) else false then decide ((roomR f 0).lo=8) && (decide ((roomR f 0).hi=9) && true) else false)=false)=>tv)) (Ak 1 (An (fun (y46:(bif bif bif bif bif bif bif decide (roomE f 0=0) then decide (stripsE o=0) else false then decide (refuseE f=0) else false then decide (openF o (fitsG o 0 [2,0,0])=0) else false then decide (growE o 0=0) else false then decide (openF f (gapG f 1 3)=0) else false then decide ((roomR f 0).lo=8) && (decide ((roomR f 0).hi=9) && true) else false then decide (stripsN o=4) else false)=true)=>(An (Ak 1 tv) tv)) (An (fun (y47:(bif bif bif bif bif bif bif decide (roomE f 0=0) then decide (stripsE o=0) else false then decide (refuseE f=0) else false then decide (openF o (fitsG o 0 [2,0,0])=0) else false then decide (growE o 0=0) else false then decide (openF f (gapG f 1 3)=0) else false then decide ((roomR f 0).lo=8) && (decide ((roomR f 0).hi=9) && true) else false then decide (stripsN o=4) else false)=true)=>(An (Ak 1 tv) tv)) (An (fun (y48:(bif bif bif bif bif bif bif decide (roomE f 0=0) then decide (stripsE o=0) else false then decide (refuseE f=0) else false then decide (openF o (fitsG o 0 [2,0,0])=0) else false then decide (growE o 0=0) else false then decide (openF f (gapG f 1 3)=0) else false then decide ((roomR f 0).lo=8) && (decide ((roomR f 0).hi=9) && true) else false then decide (stripsN o=4) else false)=true)=>(An (Ak 1 (An (fun (y49:(bif bif bif bif bif bif bif decide (roomE f 0=0) then decide (stripsE o=0) else false then decide (refuseE f=0) else false then decide (openF o (fitsG o 0 [2,0,0])=0) else false then decide (growE o 0=0) else false then decide (openF f (gapG f 1 3)=0) else false then decide ((roomR f 0).lo=8) && (decide ((roomR f 0).hi=9) && true) else false then decide (stripsN o=4) else false)=true)=>y48) (An (fun (y50:(bif bif bif bif bif bif bif decide (roomE f 0=0) then decide (stripsE o=0) else false then decide (refuseE f=0) else false then decide (openF o (fitsG o 0 [2,0,0])=0) else false then decide (growE o 0=0) else false then decide (openF f (gapG f 1 3)=0) else false then decide ((roomR f 0).lo=8) && (decide ((roomR f 0).hi=9) && true) else false then decide (stripsN o=4) else false)=true)=>y48) tv))) (An (An (An (zr 1) (An (zr (refuseL f).length) (fun (i51:Nat)=>(fun (y52:i51 < (refuseL f).length)=>(zr ([iv ((refuseL f).getD i51 0)])))))) (An (An (zr 1) (An (zr 1) (fun (i53:Nat)=>(fun (y54:i53 < List.length [3])=>(o7 hpre y48 i53 y54))))) tv)) (An (t40 (refuseL f) ([3])) (An (o8 hpre y48) (Ak 1 (fun (i55:Env)=>tv))))))) (An (An (fun (y56:(bif bif bif bif bif bif bif decide (roomE f 0=0) then decide (stripsE o=0) else false then decide (refuseE f=0) else false then decide (openF o (fitsG o 0 [2,0,0])=0) else false then decide (growE o 0=0) else false then decide (openF f (gapG f 1 3)=0) else false then decide ((roomR f 0).lo=8) && (decide ((roomR f 0).hi=9) && true) else false then decide (stripsN o=4) else false)=true)=>y56) (fun (y57:(bif bif bif bif bif bif bif decide (roomE f 0=0) then decide (stripsE o=0) else false then decide (refuseE f=0) else false then decide (openF o (fitsG o 0 [2,0,0])=0) else false then decide (growE o 0=0) else false then decide (openF f (gapG f 1 3)=0) else false then decide ((roomR f 0).lo=8) && (decide ((roomR f 0).hi=9) && true) else false then decide (stripsN o=4) else false)=false)=>tv)) (Ak 1 (An (fun (y58:(bif bif bif bif bif bif bif bif decide (roomE f 0=0) then decide (stripsE o=0) else false then decide (refuseE f=0) else false then decide (openF o (fitsG o 0 [2,0,0])=0) else false then decide (growE o 0=0) else false then decide (openF f (gapG f 1 3)=0) else false then decide ((roomR f 0).lo=8) && (decide ((roomR f 0).hi=9) && true) else false then decide (stripsN o=4) else false then sameInts (refuseL f) [3] else false)=true)=>(An (Ak 1 tv) tv)) (An (fun (y59:(bif bif bif bif bif bif bif bif decide (roomE f 0=0) then decide (stripsE o=0) else false then decide (refuseE f=0) else false then decide (openF o (fitsG o 0 [2,0,0])=0) else false then decide (growE o 0=0) else false then decide (openF f (gapG f 1 3)=0) else false then decide ((roomR f 0).lo=8) && (decide ((roomR f 0).hi=9) && true) else false then decide (stripsN o=4) else false then sameInts (refuseL f) [3] else false)=true)=>(An (An (fun (y60:(bif bif bif bif bif bif bif bif decide (roomE f 0=0) then decide (stripsE o=0) else false then decide (refuseE f=0) else false then decide (openF o (fitsG o 0 [2,0,0])=0) else false then decide (growE o 0=0) else false then decide (openF f (gapG f 1 3)=0) else false then decide ((roomR f 0).lo=8) && (decide ((roomR f 0).hi=9) && true) else false then decide (stripsN o=4) else false then sameInts (refuseL f) [3] else false)=true)=>y59) (Ak 1 tv)) tv)) (An (An (fun (y61:(bif bif bif bif bif bif bif bif decide (roomE f 0=0) then decide (stripsE o=0) else false then decide (refuseE f=0) else false then decide (openF o (fitsG o 0 [2,0,0])=0) else false then decide (growE o 0=0) else false then decide (openF f (gapG f 1 3)=0) else false then decide ((roomR f 0).lo=8) && (decide ((roomR f 0).hi=9) && true) else false then decide (stripsN o=4) else false then sameInts (refuseL f) [3] else false)=true)=>y61) (fun (y62:(bif bif bif bif bif bif bif bif decide (roomE f 0=0) then decide (stripsE o=0) else false then decide (refuseE f=0) else false then decide (openF o (fitsG o 0 [2,0,0])=0) else false then decide (growE o 0=0) else false then decide (openF f (gapG f 1 3)=0) else false then decide ((roomR f 0).lo=8) && (decide ((roomR f 0).hi=9) && true) else false then decide (stripsN o=4) else false then sameInts (refuseL f) [3] else false)=false)=>tv)) (Ak 1 (An (fun (y63:(bif bif bif bif bif bif bif bif bif decide (roomE f 0=0) then decide (stripsE o=0) else false then decide (refuseE f=0) else false then decide (openF o (fitsG o 0 [2,0,0])=0) else false then decide (growE o 0=0) else false then decide (openF f (gapG f 1 3)=0) else false then decide ((roomR f 0).lo=8) && (decide ((roomR f 0).hi=9) && true) else false then decide (stripsN o=4) else false then sameInts (refuseL f) [3] else false then decide (fitsP o 0 [2,0,0]=3) else false)=true)=>(An (Ak 1 tv) tv)) (An (fun (y64:(bif bif bif bif bif bif bif bif bif decide (roomE f 0=0) then decide (stripsE o=0) else false then decide (refuseE f=0) else false then decide (openF o (fitsG o 0 [2,0,0])=0) else false then decide (growE o 0=0) else false then decide (openF f (gapG f 1 3)=0) else false then decide ((roomR f 0).lo=8) && (decide ((roomR f 0).hi=9) && true) else false then decide (stripsN o=4) else false then sameInts (refuseL f) [3] else false then decide (fitsP o 0 [2,0,0]=3) else false)=true)=>(An (An (fun (y65:(bif bif bif bif bif bif bif bif bif decide (roomE f 0=0) then decide (stripsE o=0) else false then decide (refuseE f=0) else false then decide (openF o (fitsG o 0 [2,0,0])=0) else false then decide (growE o 0=0) else false then decide (openF f (gapG f 1 3)=0) else false then decide ((roomR f 0).lo=8) && (decide ((roomR f 0).hi=9) && true) else false then decide (stripsN o=4) else false then sameInts (refuseL f) [3] else false then decide (fitsP o 0 [2,0,0]=3) else false)=true)=>y64) (Ak 1 tv)) tv)) (An (An (fun (y66:(bif bif bif bif bif bif bif bif bif decide (roomE f 0=0) then decide (stripsE o=0) else false then decide (refuseE f=0) else false then decide (openF o (fitsG o 0 [2,0,0])=0) else false then decide (growE o 0=0) else false then decide (openF f (gapG f 1 3)=0) else false then decide ((roomR f 0).lo=8) && (decide ((roomR f 0).hi=9) && true) else false then decide (stripsN o=4) else false then sameInts (refuseL f) [3] else false then decide (fitsP o 0 [2,0,0]=3) else false)=true)=>y66) (fun (y67:(bif bif bif bif bif bif bif bif bif decide (roomE f 0=0) then decide (stripsE o=0) else false then decide (refuseE f=0) else false then decide (openF o (fitsG o 0 [2,0,0])=0) else false then decide (growE o 0=0) else false then decide (openF f (gapG f 1 3)=0) else false then decide ((roomR f 0).lo=8) && (decide ((roomR f 0).hi=9) && true) else false then decide (stripsN o=4) else false then sameInts (refuseL f) [3] else false then decide (fitsP o 0 [2,0,0]=3) else false)=false)=>tv)) (Ak 1 (An (fun (y68:(bif bif bif bif bif bif bif bif bif bif decide (roomE f 0=0) then decide (stripsE o=0) else false then decide (refuseE f=0) else false then decide (openF o (fitsG o 0 [2,0,0])=0) else false then decide (growE o 0=0) else false then decide (openF f (gapG f 1 3)=0) else false then decide ((roomR f 0).lo=8) && (decide ((roomR f 0).hi=9) && true) else false then decide (stripsN o=4) else false then sameInts (refuseL f) [3] else false then decide (fitsP o 0 [2,0,0]=3) else false then decide (growN o 0=22) else false)=true)=>(An (Ak 1 tv) tv)) (An (fun (y69:(bif bif bif bif bif bif bif bif bif bif decide (roomE f 0=0) then decide (stripsE o=0) else false then decide (refuseE f=0) else false then decide (openF o (fitsG o 0 [2,0,0])=0) else false then decide (growE o 0=0) else false then decide (openF f (gapG f 1 3)=0) else false then decide ((roomR f 0).lo=8) && (decide ((roomR f 0).hi=9) && true) else false then decide (stripsN o=4) else false then sameInts (refuseL f) [3] else false then decide (fitsP o 0 [2,0,0]=3) else false then decide (growN o 0=22) else false)=true)=>(An (Ak 2 tv) tv)) (An (fun (y70:(bif bif bif bif bif bif bif bif bif bif decide (roomE f 0=0) then decide (stripsE o=0) else false then decide (refuseE f=0) else false then decide (openF o (fitsG o 0 [2,0,0])=0) else false then decide (growE o 0=0) else false then decide (openF f (gapG f 1 3)=0) else false then decide ((roomR f 0).lo=8) && (decide ((roomR f 0).hi=9) && true) else false then decide (stripsN o=4) else false then sameInts (refuseL f) [3] else false then decide (fitsP o 0 [2,0,0]=3) else false then decide (growN o 0=22) else false)=true)=>(An (An (fun (y71:(bif bif bif bif bif bif bif bif bif bif decide (roomE f 0=0) then decide (stripsE o=0) else false then decide (refuseE f=0) else false then decide (openF o (fitsG o 0 [2,0,0])=0) else false then decide (growE o 0=0) else false then decide (openF f (gapG f 1 3)=0) else false then decide ((roomR f 0).lo=8) && (decide ((roomR f 0).hi=9) && true) else false then decide (stripsN o=4) else false then sameInts (refuseL f) [3] else false then decide (fitsP o 0 [2,0,0]=3) else false then decide (growN o 0=22) else false)=true)=>y70) (An (fun (y72:(bif bif bif bif bif bif bif bif bif bif decide (roomE f 0=0) then decide (stripsE o=0) else false then decide (refuseE f=0) else false then decide (openF o (fitsG o 0 [2,0,0])=0) else false then decide (growE o 0=0) else false then decide (openF f (gapG f 1 3)=0) else false then decide ((roomR f 0).lo=8) && (decide ((roomR f 0).hi=9) && true) else false then decide (stripsN o=4) else false then sameInts (refuseL f) [3] else false then decide (fitsP o 0 [2,0,0]=3) else false then decide (growN o 0=22) else false)=true)=>y70) tv)) tv)) (An (An (fun (y73:(bif bif bif bif bif bif bif bif bif bif decide (roomE f 0=0) then decide (stripsE o=0) else false then decide (refuseE f=0) else false then decide (openF o (fitsG o 0 [2,0,0])=0) else false then decide (growE o 0=0) else false then decide (openF f (gapG f 1 3)=0) else false then decide ((roomR f 0).lo=8) && (decide ((roomR f 0).hi=9) && true) else false then decide (stripsN o=4) else false then sameInts (refuseL f) [3] else false then decide (fitsP o 0 [2,0,0]=3) else false then decide (growN o 0=22) else false)=true)=>y73) (fun (y74:(bif bif bif bif bif bif bif bif bif bif decide (roomE f 0=0) then decide (stripsE o=0) else false then decide (refuseE f=0) else false then decide (openF o (fitsG o 0 [2,0,0])=0) else false then decide (growE o 0=0) else false then decide (openF f (gapG f 1 3)=0) else false then decide ((roomR f 0).lo=8) && (decide ((roomR f 0).hi=9) && true) else false then decide (stripsN o=4) else false then sameInts (refuseL f) [3] else false then decide (fitsP o 0 [2,0,0]=3) else false then decide (growN o 0=22) else false)=false)=>tv)) (Ak 1 tv)))))))))))))))))))))))))))))))))))))))))))))))) ?_
 refine swp_ret ?_
 exact zT [] (An (Ak 1 tv) (An (An (cb (o9 hpre)) (zr nilN)) (An (zr true) (An (zr true) (zr true)))))
set_option maxRecDepth 4000
theorem x_room:roomR exP 0=⟨8,9⟩/\roomE exP 0=0:=by decide +kernel
theorem x_strips:stripsN exO=4/\stripsE exO=0:=by decide +kernel
theorem x_ref:refuseL exP = [3]/\refuseE exP=0:=by decide +kernel
theorem x_fits:fitsP exO 0 [2,0,0]=3/\openF exO (fitsG exO 0 [2,0,0])=0:=by decide +kernel
theorem x_grow:growN exO 0=22/\growE exO 0=0:=by decide +kernel
theorem x_gap:gapR exP 1 3=⟨19,21⟩/\openF exP (gapG exP 1 3)=0:=by decide +kernel
theorem tw20 (f o:Frm):Triple Try.prog 20 (sw20 f o):=by
 apply w20
 all_goals (rintro ⟨rfl,rfl⟩)
 case o3 =>
  intro i hi
  have:i=0 ∨ i=1 ∨ i=2:=by simp at hi; omega
  rcases this with rfl | rfl | rfl <;> rfl
 case o7 =>
  intro _ i hi
  have:i=0:=by simpa using hi
  subst this; rfl
 case o8=>intro _; decide
 case o9 =>
  obtain ⟨a1,a2⟩:=x_room
  obtain ⟨b1,b2⟩:=x_strips
  obtain ⟨c1,c2⟩:=x_ref
  obtain ⟨d1,d2⟩:=x_fits
  obtain ⟨e1,e2⟩:=x_grow
  obtain ⟨g1,g2⟩:=x_gap
  rw [a1,a2,b1,b2,c1,c2,d1,d2,e1,e2,g1,g2]; (repeat intro _); rfl
 all_goals (first | exact small_exP | exact small_exO | skip)
theorem t20:Triple Try.prog 20 s20:=⟨(tw20 exP exO).1,fun _=>(tw20 exP exO).2 ⟨rfl,rfl⟩⟩
theorem sound_small {f:Frm} (h:Sound f):smallF f:=by
 have h1:=h.strips
 have h2:=h.pieces
 have h3:=h.columns
 exact ⟨by omega,by omega,by omega,fun i=>by have:=h.colLen i; omega⟩
theorem ready_ok {f:Frm} (h:readyF f=true):okFrm f=true/\Sound f/\smallF f:=by
 unfold readyF at h
 rw [Bool.and_eq_true] at h
 have:=sound_of h.2
 exact ⟨h.2,this,sound_small this⟩
theorem nbor {a b:Bool} (h:(bif !a then true else !b)=false):a=true/\b=true:=by cases a <;> cases b <;> first | exact ⟨rfl,rfl⟩ | cases h
end Go.Ab
namespace Go.Sh
open Go.Ab
variable {f:Frm}
theorem pence_take (f:Frm) (l:List Int) {k:Nat} (h:k < l.length):penceP f (l.take (k + 1))=penceP f (l.take k) + (pc f (l.getD k 0).toNat).pence:=by
 unfold penceP; rw [take_succ _ 0 h,List.foldl_append]; rfl
theorem pence_bound (hs:Sound f) {l:List Int} (hl:goodL f l):∀ k,k<=l.length->0<=penceP f (l.take k)/\penceP f (l.take k)<=99 * k:=by
 intro k
 induction k with
 | zero=>intro _; exact ⟨Int.le_refl _,Int.le_refl _⟩
 | succ k ih =>
  intro h
  have h1:=ih (by omega)
  have h2:=hl.2 k (by omega)
  have h3:=hs.piece (l.getD k 0).toNat (by omega)
  rw [pence_take f l (by omega)]
  omega
def okLay (l:List (List Int)):Prop:=l.length<=3 /\ ∀ i,(l.getD i []).length<=3 /\ ∀ q,0<=(l.getD i []).getD q 0/\(l.getD i []).getD q 0<=4
theorem sum_sumS (s:List Int):∀ k,k<=s.length->sumI (s.take k)=sumTo s k:=by
 intro k
 induction k with
 | zero=>intro _; rfl
 | succ k ih=>intro h; rw [sumI_take _ (by omega),ih (by omega),sumTo_succ]
theorem sumI_S (s:List Int):sumI s=sumS s:=by
 have:=sum_sumS s s.length (Nat.le_refl _)
 rw [List.take_of_length_le (Nat.le_refl _)] at this
 exact this
theorem sumTo_bound {s:List Int} (h:∀ q,0<=s.getD q 0/\s.getD q 0<=4):∀ k:Nat,0<=sumTo s k/\sumTo s k<=4 * k:=by
 intro k
 induction k with
 | zero=>exact ⟨Int.le_refl _,Int.le_refl _⟩
 | succ k ih=>rw [sumTo_succ]; have:=h k; omega
theorem many_take (l:List (List Int)) {k:Nat} (h:k < l.length):manyL (l.take (k + 1))=manyL (l.take k) + sumI (l.getD k []):=by
 rw [take_succ _ [] h,manyL_append,sumI_S]
 show _ + (sumS _ + 0)=_
 omega
theorem many_bound {l:List (List Int)} (h:okLay l):∀ k,k<=l.length->0<=manyL (l.take k)/\manyL (l.take k)<=12 * k:=by
 intro k
 induction k with
 | zero=>intro _; exact ⟨Int.le_refl _,Int.le_refl _⟩
 | succ k ih =>
  intro hk
  have h1:=ih (by omega)
  rw [many_take _ (by omega),sumI_S]
  have h2:=sumTo_bound (h.2 k).2 (l.getD k []).length
  have h3:=(h.2 k).1
  unfold sumS
  omega
end Go.Sh
namespace Go.Sh
open Go.Ab
variable {f:Frm}
theorem strips_lt (hs:Sound f):stripsV f < 100000 ↔ (wholeP f 0).isSome=true:=by
 unfold stripsV
 have h:=whole_in (w:=0) hs
 have h2:=hs.columns
 cases e:wholeP f 0 with
 | none=>simp
 | some x=>have:=(h x e).2.1; simp; omega
end Go.Sh
namespace Go.Sh
end Go.Sh
namespace Go.Ab
open Go Go.RowKit Go.Proofs Go.Sh Go.En
abbrev hC (f:Frm) (c:Int):Span:=highP f (col f c.toNat)
def s61 (l:List (List Int)):CallSpec:={ args:=[aIntss l],res:=iv (manyL l),pre:=okLay l }
def h61 (l:List (List Int)):Hint:={ X:=Nat,M:=fun i=>[(3,iv (manyL (l.take i))),(4,iv i)],I:=fun i=>i<=l.length,mu:=fun i=>l.length - i,x0:=(0:Nat),nx:=fun i=>i + 1 }
def s27 (f:Frm):CallSpec:={ args:=[vFrm f],res := .tup [iv (stripsV f),bv true],pre:=okFrm f=true }
def s50 (f:Frm):CallSpec:={ args:=[vFrm f],res := .tup [iv (lostV f),bv true],pre:=okFrm f=true }
end Go.Ab
namespace Go.Ab
open Go Go.RowKit Go.Proofs Go.Sh Go.En
theorem w61 (l:List (List Int))
  (o0:okLay l->0=manyL (List.take 0 l))
  (o1:okLay l->0=(↑0:Int))
  (o2:okLay l->0<=List.length l)
  (o3:okLay l -> ∀ (x0:Nat),x0<=l.length->decide ((x0:Int) < (↑(l.length):Int))=true->0<=(x0:Int))
  (o4:okLay l -> ∀ (x0:Nat),x0<=l.length->decide ((x0:Int) < (↑(l.length):Int))=true->(x0:Int) < (↑(l.length):Int))
  (o5:okLay l -> ∀ (x0:Nat),x0<=l.length->decide ((x0:Int) < (↑(l.length):Int))=true->(l.getD x0 []).length<=big)
  (o6:okLay l -> ∀ (x0:Nat),x0<=l.length->decide ((x0:Int) < (↑(l.length):Int))=true -> ∀ (i2:Nat),i2<=(l.getD x0 []).length->inI (sumI (List.take i2 (l.getD x0 []))))
  (o7:okLay l -> ∀ (x0:Nat),x0<=l.length->decide ((x0:Int) < (↑(l.length):Int))=true->inI (manyL (List.take x0 l) + sumI (l.getD x0 [])))
  (o8:okLay l -> ∀ (x0:Nat),x0<=l.length->decide ((x0:Int) < (↑(l.length):Int))=true->inI ((x0:Int) + 1))
  (o9:okLay l -> ∀ (x0:Nat),x0<=l.length->decide ((x0:Int) < (↑(l.length):Int))=true->manyL (List.take x0 l) + sumI (l.getD x0 [])=manyL (List.take (x0 + 1) l))
  (o10:okLay l -> ∀ (x0:Nat),x0<=l.length->decide ((x0:Int) < (↑(l.length):Int))=true->(x0:Int) + 1=(↑(x0 + 1):Int))
  (o11:okLay l -> ∀ (x0:Nat),x0<=l.length->decide ((x0:Int) < (↑(l.length):Int))=true->x0 + 1<=l.length)
  (o12:okLay l -> ∀ (x0:Nat),x0<=l.length->decide ((x0:Int) < (↑(l.length):Int))=true->l.length - (x0 + 1) < l.length - x0)
  (o13:okLay l -> ∀ (x0:Nat),x0<=l.length->decide ((x0:Int) < (↑(l.length):Int))=false->manyL (List.take x0 l)=manyL l) :
  Triple Try.prog 61 (s61 l):=by
 refine triple_of Try.func61 rfl Try.call61 T0_ok _ rfl rfl rfl rfl (Nat.le_of_ble_eq_true (by kernel_rfl)) (fun _ _ _ _ h=>h) ?_
 intro hpre C hC _ hE
 obtain ⟨P,w0,E0,av,hA,ro,df⟩:=C
 obtain ⟨rfl,rfl,rfl⟩:=hC
 refine swp_seq ?_
 refine zR [0] [] (Ak 1 tv) ?_
 refine swp_seq ?_
 refine zR [0,3] [] (Ak 1 tv) ?_
 refine swp_seq ?_
 refine swp_seq ?_
 refine zR [0,3,4] [] (Ak 1 tv) ?_
 refine swp_block ?_
 refine zL (Hint.ann (h61 l) [(0,aIntss l)] [] 10024) (zE hE [] [] [0] [] (An (An (An (zr (aIntss l)) (zr true)) (An (An (ci (o0 hpre)) (zr nilN)) (An (An (ci (o1 hpre)) (zr nilN)) tv))) (Ak 1 (An (zr true) (zr true))))) (o2 hpre) (fun (x0:Nat) hx0 => ?_)
 refine swp_seq ?_
 refine swp_seq ?_
 refine zR [0,3,4,8] [] (Ak 4 tv) ?_
 refine zI (decide ((x0:Int) < (↑(l.length):Int))) (fun y1 => ?_) (fun y1 => ?_)
 ·refine swp_skip ?_
  refine swp_seq ?_
  refine swp_block ?_
  refine zC ([(5,CallSpec.eq (s113 (l.getD x0 [])) [true])]) [0,3,4] [] (Ak 3 (An (An (o3 hpre x0 hx0 y1) (o4 hpre x0 hx0 y1)) (Ak 1 (An (An (An (zr (aInts (l.getD x0 []))) tv) (An (t113 (l.getD x0 [])) (An (An (o5 hpre x0 hx0 y1) (fun (i2:Nat)=>(fun (y3:i2<=(l.getD x0 []).length)=>(o6 hpre x0 hx0 y1 i2 y3)))) (Ak 1 (fun (i4:Env)=>tv))))) (An (o7 hpre x0 hx0 y1) (Ak 1 tv)))))) ?_
  refine zR [0,3,4] [] (Ak 1 (An (o8 hpre x0 hx0 y1) (Ak 1 tv))) ?_
  exact zn (zE hE [] [] [0] [] (An (An (An (zr (aIntss l)) (zr true)) (An (An (ci (o9 hpre x0 hx0 y1)) (zr nilN)) (An (An (ci (o10 hpre x0 hx0 y1)) (zr nilN)) tv))) (Ak 1 (An (zr true) (zr true))))) (o11 hpre x0 hx0 y1) (o12 hpre x0 hx0 y1)
 ·refine swp_exit ?_
  refine swp_seq ?_
  refine zR [2] [] (Ak 2 tv) ?_
  refine swp_ret ?_
  exact zT [] (An (Ak 1 tv) (An (An (ci (o13 hpre x0 hx0 y1)) (zr nilN)) (An (zr true) (An (zr true) (zr true)))))
theorem t61 (l:List (List Int)):Triple Try.prog 61 (s61 l):=by
 apply w61
 all_goals (intro hl; have hlen:=hl.1)
 case o0 | o1=>rfl
 case o2=>omega
 all_goals (intro x hx h; simp only [decide_eq_true_eq,decide_eq_false_iff_not] at h)
 case o13=>rw [List.take_of_length_le (by omega)]
 all_goals (have h2:=hl.2 x)
 case o5=>have:=h2.1; simp only [big]; omega
 case o6=>intro k hk; rw [sum_sumS _ _ hk]; have:=sumTo_bound h2.2 k; simp only [inI]; omega
 case o9=>exact (many_take l (by omega)).symm
 case o7=>have h3:=many_bound hl (x + 1) (by omega); rw [many_take l (by omega)] at h3; simp only [inI]; omega
 all_goals (first | omega | (simp only [inI]; omega))
theorem same_self (l:List Int):sameInts l l=true:=by unfold sameInts; simp
theorem w27 (f:Frm)
  (o0:okFrm f=true->smallF f)
  (o1:okFrm f=true->decide (stripsE f=3)=true->100000=stripsV f)
  (o2:okFrm f=true->decide (stripsE f=3)=false->stripsN f=stripsV f)
  (o3:okFrm f=true->decide (stripsE f=3)=false->(bif bif decide (stripsE f=0) then decide (0<=stripsN f) else false then decide (stripsN f < 100000) else false)=true) :
  Triple Try.prog 27 (s27 f):=by
 refine triple_of Try.func27 rfl Try.call27 T0_ok _ rfl rfl rfl rfl (Nat.le_of_ble_eq_true (by kernel_rfl)) (fun _ _ _ _ h=>h) ?_
 intro hpre C hC _ hE
 obtain ⟨P,w0,E0,av,hA,ro,df⟩:=C
 obtain ⟨rfl,rfl,rfl⟩:=hC
 refine swp_seq ?_
 refine zR [1] [0] (Ak 3 tv) ?_
 refine swp_seq ?_
 refine zC ([(1,CallSpec.eq (s59 f) [true])]) [4,5] [] (Ak 1 (An (An (An (zr (AV.agg (cFrm f))) tv) (An (t59 (f)) (An (o0 hpre) (Ak 1 (fun (i0:Env)=>tv))))) (Ak 5 tv))) ?_
 refine swp_seq ?_
 refine swp_seq ?_
 refine zR [4,5,12] [] (Ak 2 tv) ?_
 refine zI (decide (stripsE f=3)) (fun y1 => ?_) (fun y1 => ?_)
 ·refine swp_seq ?_
  refine zR [2,3] [] (Ak 2 tv) ?_
  refine swp_ret ?_
  exact zT [] (An (Ak 2 tv) (An (An (An (ci (o1 hpre y1)) (zr nilN)) (An (An (zr (bv true)) (zr nilN)) tv)) (An (zr true) (An (zr true) (zr true)))))
 ·refine swp_skip ?_
  refine swp_seq ?_
  refine zR [2,3] [] (Ak 4 (An (fun (y2:decide (stripsE f=0)=true)=>(An (Ak 1 tv) tv)) (An (fun (y3:decide (stripsE f=0)=true)=>(An (An (fun (y4:decide (stripsE f=0)=true)=>y3) (Ak 1 tv)) tv)) (An (An (fun (y5:decide (stripsE f=0)=true)=>y5) (fun (y6:decide (stripsE f=0)=false)=>tv)) (Ak 1 (An (fun (y7:(bif decide (stripsE f=0) then decide (0<=stripsN f) else false)=true)=>(An (Ak 1 tv) tv)) (An (fun (y8:(bif decide (stripsE f=0) then decide (0<=stripsN f) else false)=true)=>(An (An (fun (y9:(bif decide (stripsE f=0) then decide (0<=stripsN f) else false)=true)=>y8) (Ak 1 tv)) tv)) (An (An (fun (y10:(bif decide (stripsE f=0) then decide (0<=stripsN f) else false)=true)=>y10) (fun (y11:(bif decide (stripsE f=0) then decide (0<=stripsN f) else false)=false)=>tv)) (Ak 2 tv))))))))) ?_
  refine swp_ret ?_
  exact zT [] (An (Ak 2 tv) (An (An (An (ci (o2 hpre y1)) (zr nilN)) (An (An (cb (o3 hpre y1)) (zr nilN)) tv)) (An (zr true) (An (zr true) (zr true)))))
theorem t27 (f:Frm):Triple Try.prog 27 (s27 f):=by
 apply w27
 all_goals (intro h; have hs:=sound_of h; have hw:=whole_in (w:=0) hs; have hcl:=hs.columns)
 case o0=>exact sound_small hs
 all_goals (have ee:stripsE f=if (wholeP f 0).isSome then 0 else 3:=by unfold stripsE; rw [if_pos h])
 all_goals (have en:stripsN f=layM (wholeP f 0):=by unfold stripsN; rw [if_pos h])
 all_goals (rw [ee]; (try rw [en]))
 case o1 =>
  unfold stripsV
  cases e:wholeP f 0 with
  | none=>intro _; rfl
  | some x=>intro h; exact absurd h (by simp)
 case o2 =>
  unfold stripsV
  cases e:wholeP f 0 with
  | none=>intro h; exact absurd h (by simp)
  | some x=>intro _; rfl
 case o3 =>
  cases e:wholeP f 0 with
  | none=>intro h; exact absurd h (by simp)
  | some x =>
   intro _
   have:=hw x e
   show (bif bif true then decide (0<=x.2) else false then decide (x.2 < 100000) else false)=true
   rw [decide_eq_true (show 0<=x.2 by omega),decide_eq_true (show x.2 < 100000 by omega)]; rfl
theorem w50 (f:Frm)
  (o0:okFrm f=true->smallF f)
  (o1:okFrm f=true->decide (refuseE f=3)=true->100000=lostV f)
  (o2:okFrm f=true->decide (refuseE f=3)=false->lostN f=lostV f)
  (o3:okFrm f=true->decide (refuseE f=3)=false->(bif bif decide (refuseE f=0) then decide (0<=lostN f) else false then decide (lostN f < 100000) else false)=true) :
  Triple Try.prog 50 (s50 f):=by
 refine triple_of Try.func50 rfl Try.call50 T0_ok _ rfl rfl rfl rfl (Nat.le_of_ble_eq_true (by kernel_rfl)) (fun _ _ _ _ h=>h) ?_
 intro hpre C hC _ hE
 obtain ⟨P,w0,E0,av,hA,ro,df⟩:=C
 obtain ⟨rfl,rfl,rfl⟩:=hC
 refine swp_seq ?_
 refine zR [1] [0] (Ak 3 tv) ?_
 refine swp_seq ?_
 refine zC ([(1,CallSpec.eq (s44 f) [true])]) [4,5] [] (Ak 1 (An (An (An (zr (AV.agg (cFrm f))) tv) (An (t44 (f)) (An (o0 hpre) (Ak 1 (fun (i0:Env)=>tv))))) (Ak 5 tv))) ?_
 refine swp_seq ?_
 refine swp_seq ?_
 refine zR [4,5,12] [] (Ak 2 tv) ?_
 refine zI (decide (refuseE f=3)) (fun y1 => ?_) (fun y1 => ?_)
 ·refine swp_seq ?_
  refine zR [2,3] [] (Ak 2 tv) ?_
  refine swp_ret ?_
  exact zT [] (An (Ak 2 tv) (An (An (An (ci (o1 hpre y1)) (zr nilN)) (An (An (zr (bv true)) (zr nilN)) tv)) (An (zr true) (An (zr true) (zr true)))))
 ·refine swp_skip ?_
  refine swp_seq ?_
  refine zR [2,3] [] (Ak 4 (An (fun (y2:decide (refuseE f=0)=true)=>(An (Ak 1 tv) tv)) (An (fun (y3:decide (refuseE f=0)=true)=>(An (An (fun (y4:decide (refuseE f=0)=true)=>y3) (Ak 1 tv)) tv)) (An (An (fun (y5:decide (refuseE f=0)=true)=>y5) (fun (y6:decide (refuseE f=0)=false)=>tv)) (Ak 1 (An (fun (y7:(bif decide (refuseE f=0) then decide (0<=lostN f) else false)=true)=>(An (Ak 1 tv) tv)) (An (fun (y8:(bif decide (refuseE f=0) then decide (0<=lostN f) else false)=true)=>(An (An (fun (y9:(bif decide (refuseE f=0) then decide (0<=lostN f) else false)=true)=>y8) (Ak 1 tv)) tv)) (An (An (fun (y10:(bif decide (refuseE f=0) then decide (0<=lostN f) else false)=true)=>y10) (fun (y11:(bif decide (refuseE f=0) then decide (0<=lostN f) else false)=false)=>tv)) (Ak 2 tv))))))))) ?_
  refine swp_ret ?_
  exact zT [] (An (Ak 2 tv) (An (An (An (ci (o2 hpre y1)) (zr nilN)) (An (An (cb (o3 hpre y1)) (zr nilN)) tv)) (An (zr true) (An (zr true) (zr true)))))
theorem t50 (f:Frm):Triple Try.prog 50 (s50 f):=by
 apply w50
 all_goals (intro h; have hs:=sound_of h)
 case o0=>exact sound_small hs
 all_goals (have ee:refuseE f=if (refP f).isSome then 0 else 3:=by unfold refuseE; rw [if_pos h])
 all_goals (have en:lostN f=outN (refP f):=by unfold lostN; rw [if_pos h])
 all_goals (rw [ee]; (try rw [en]))
 case o1 =>
  unfold lostV
  cases e:refP f with
  | none=>intro _; rfl
  | some x=>intro h; exact absurd h (by simp)
 case o2 =>
  unfold lostV
  cases e:refP f with
  | none=>intro h; exact absurd h (by simp)
  | some x=>intro _; rfl
 case o3 =>
  cases e:refP f with
  | none=>intro h; exact absurd h (by simp)
  | some x =>
   intro _
   have:=ref_ok hs _ x e
   show (bif bif true then decide (0<=x.2) else false then decide (x.2 < 100000) else false)=true
   rw [decide_eq_true (show 0<=x.2 by omega),decide_eq_true (show x.2 < 100000 by omega)]; rfl
end Go.Ab
namespace Go.Sh
open Go.Ab
variable {f:Frm} {left first:List Int}
theorem used_ge:∀ {l:List (List Int)} {q i:Nat},(∀ i,i < l.length->0<=(l.getD i []).getD q 0)->i < l.length->(l.getD i []).getD q 0<=usedL l q:=by
 intro l
 induction l with
 | nil=>intro q i _ hi; exact absurd hi (Nat.not_lt_zero _)
 | cons s l ih =>
  intro q i h hi
  have h0:0<=s.getD q 0:=h 0 (Nat.succ_pos _)
  have h1:∀ i,i < l.length->0<=(l.getD i []).getD q 0:=fun i hi=>h (i + 1) (Nat.succ_lt_succ hi)
  have h2:=usedL_pos h1
  cases i with
  | zero=>show s.getD q 0<=s.getD q 0 + usedL l q; omega
  | succ i =>
   have:=ih h1 (Nat.lt_of_succ_lt_succ hi)
   show (l.getD i []).getD q 0<=s.getD q 0 + usedL l q
   omega
theorem okLay_of (hs:Sound f) {w:Int} {l:List (List Int)} (h:LayF f w l):okLay l:=by
 obtain ⟨h1,h2,h3⟩:=(layF_iff hs).1 h
 have hc:=hs.columns
 have hst:=hs.strips
 refine ⟨by omega,fun i => ?_⟩
 by_cases hi:i < f.columns.length
 ·obtain ⟨a,b,_⟩:=h2 i hi
  refine ⟨by omega,fun q => ?_⟩
  by_cases hq:q < f.strips.length
  ·have g1:=b q hq
   have g2:=used_ge (l:=l) (q:=q) (i:=i) (fun j hj=>(h2 j (by omega)).2.1 q hq) (by omega)
   have g3:=h3 q hq
   have g4:=hs.strip q hq
   omega
  ·rw [getD_ge (l.getD i []) _ (by omega)]; exact ⟨by decide,by decide⟩
 ·rw [getD_ge l _ (by omega)]
  exact ⟨Nat.zero_le _,fun q=>⟨by simp,by simp⟩⟩
theorem lockR_lay (h:okFrm f=true) (h2:stripsE f=0):LayF f 0 (lockR f)/\manyL (lockR f)=stripsN f:=by
 unfold stripsE at h2
 rw [if_pos h] at h2
 unfold lockR stripsN
 rw [if_pos h,if_pos h]
 cases e:wholeP f 0 with
 | none=>rw [e] at h2; exact absurd h2 (by decide)
 | some x =>
  obtain ⟨h3,h4,_⟩:=whole_some e
  exact ⟨h3,h4.symm⟩
end Go.Sh
namespace Go.En
open Go Go.Ab Go.Sh
end Go.En
namespace Go.Ab
open Go Go.RowKit Go.Proofs Go.Sh Go.En
end Go.Ab
namespace Go.Ab
open Go Go.RowKit Go.Proofs Go.Sh Go.En
end Go.Ab
namespace Go.Sh
open Go.Ab
end Go.Sh
namespace Go.Ab
open Go Go.RowKit Go.Proofs Go.Sh Go.En
end Go.Ab
namespace Go.Ab
open Go Go.RowKit Go.Proofs Go.Sh Go.En
end Go.Ab
namespace Go.Sh
open Go.Ab
variable {f:Frm}
theorem ris_nil (n:Nat):RisN n []:=⟨List.Pairwise.nil,fun x hx=>by cases hx⟩
theorem ris_good (hs:Sound f) {l:List Int} (h:RisN f.pieces.length l):goodL f l:=by
 have h1:=ris_len h
 have h2:=hs.pieces
 exact goodL_mem (by omega) h.2
end Go.Sh
namespace Go.Ab
open Go Go.RowKit Go.Proofs Go.Sh Go.En
end Go.Ab
namespace Go.Ab
open Go Go.RowKit Go.Proofs Go.Sh Go.En
end Go.Ab
namespace Go.Sh
structure Nar where
 piece:Int
 lo:Int
 hi:Int
 one:Int
 other:Int
end Go.Sh
namespace Go.En
open Go Go.Ab Go.Sh
end Go.En
namespace Go.Ab
open Go Go.RowKit Go.Proofs Go.Sh Go.En
def e5 (f:Frm) (c:Int) (set:List Int):List (Nat × OB):=[(112,.cells 26 (cFrm f))]
end Go.Ab
namespace Go.Ab
open Go Go.RowKit Go.Proofs Go.Sh Go.En
theorem nnot {a:Bool} (h:(!a)=false):a=true:=by cases a <;> first | rfl | cases h
end Go.Ab
namespace Go.Sh
open Go.Ab
variable {f:Frm}
theorem lockR_ok (f:Frm):okLay (lockR f):=by
 unfold lockR
 cases h:okFrm f with
 | false=>exact ⟨Nat.zero_le _,fun i=>⟨by simp,fun q=>⟨by simp,by simp⟩⟩⟩
 | true =>
  rw [if_pos rfl]
  cases e:wholeP f 0 with
  | none=>exact ⟨Nat.zero_le _,fun i=>⟨by simp [layS],fun q=>⟨by simp [layS],by simp [layS]⟩⟩⟩
  | some x=>exact okLay_of (sound_of h) (whole_some e).1
def layAt (f:Frm) (lay:List (List Int)) (i:Nat):Bool:=isSet f (lay.getD i []) && sureP f i (pointsP f (lay.getD i []))
def usedR (f:Frm) (lay:List (List Int)):List Int:=(List.range f.strips.length).map fun q=>usedL lay q
def layB (f:Frm) (lay:List (List Int)):Bool:=decide (lay.length=f.columns.length) && (List.range lay.length).all (layAt f lay) && isSet f (usedR f lay)
def usedIn (lay:List (List Int)) (i k q:Nat):Int:=if q < k then usedL (lay.take (i + 1)) q else usedL (lay.take i) q
theorem usedR_len (f:Frm) (lay:List (List Int)):(usedR f lay).length=f.strips.length:=by unfold usedR; rw [List.length_map,List.length_range]
theorem usedR_get (f:Frm) (lay:List (List Int)) {q:Nat} (h:q < f.strips.length):(usedR f lay).getD q 0=usedL lay q:=by
 rw [getD_lt _ _ (by rw [usedR_len]; exact h)]; unfold usedR; rw [List.getElem_map,List.getElem_range]
theorem used_take (lay:List (List Int)) {i:Nat} (h:i < lay.length) (q:Nat):usedL (lay.take (i + 1)) q=usedL (lay.take i) q + (lay.getD i []).getD q 0:=by
 rw [take_succ _ [] h,usedL_append]; show _ + (_ + 0)=_; omega
theorem layB_iff {lay:List (List Int)}:layB f lay=true ↔ lay.length=f.columns.length/\(∀ i,i < lay.length->layAt f lay i=true)/\isSet f (usedR f lay)=true:=by
 unfold layB
 simp only [Bool.and_eq_true,decide_eq_true_eq,List.all_eq_true,List.mem_range,and_assoc]
theorem isSet_iff {s:List Int}:isSet f s=true ↔ s.length=f.strips.length /\ ∀ k,k < s.length->0<=s.getD k 0/\s.getD k 0<=(stp f k).many:=by
 constructor
 ·exact isSet_get
 ·rintro ⟨h1,h2⟩
  unfold isSet
  simp only [Bool.and_eq_true,decide_eq_true_eq,List.all_eq_true,List.mem_range,isSetAt,within_iff]
  exact ⟨h1,h2⟩
theorem sure_iff (hs:Sound f) (c:Nat) {n:Int} (hn:0<=n):sureP f c n=true ↔ sureH f (highP f (col f c)) n:=by
 rw [sure_room hs c hn,within_room hn]
theorem layB_lay (hs:Sound f) {lay:List (List Int)}:layB f lay=true ↔ LayF f 0 lay:=by
 rw [layB_iff,layF_iff hs]
 constructor
 ·rintro ⟨h1,h2,h3⟩
  refine ⟨h1,fun i hi => ?_,fun q hq => ?_⟩
  ·have:=h2 i (by omega)
   unfold layAt at this
   rw [Bool.and_eq_true] at this
   obtain ⟨a,b⟩:=this
   obtain ⟨a1,a2⟩:=isSet_iff.1 a
   have hp:=pts_bound hs a
   refine ⟨a1,fun q hq=>(a2 q (by omega)).1,?_⟩
   rw [del_zero]; exact (sure_iff hs i hp.1).1 b
  ·have:=(isSet_iff.1 h3).2 q (by rw [usedR_len]; exact hq)
   rw [usedR_get f lay hq] at this
   exact this.2
 ·rintro ⟨h1,h2,h3⟩
  have hnn:∀ q,q < f.strips.length -> ∀ j,j < lay.length->0<=(lay.getD j []).getD q 0:=fun q hq j hj=>(h2 j (by omega)).2.1 q hq
  refine ⟨h1,fun i hi => ?_,isSet_iff.2 ⟨usedR_len _ _,fun q hq => ?_⟩⟩
  ·obtain ⟨a,b,c⟩:=h2 i (by omega)
   rw [del_zero] at c
   have hset:isSet f (lay.getD i [])=true:=isSet_iff.2 ⟨a,fun q hq=>⟨b q (by omega),Int.le_trans (used_ge (hnn q (by omega)) hi) (h3 q (by omega))⟩⟩
   unfold layAt
   rw [hset,(sure_iff hs i (pts_bound hs hset).1).2 c]; rfl
  ·rw [usedR_len] at hq
   rw [usedR_get f lay hq]
   exact ⟨usedL_pos (hnn q hq),h3 q hq⟩
theorem without_nil (f:Frm):withoutF f []=f:=by
 have:f.columns.map (fun c=>c.filter fun p => !isIn [] p)=f.columns:=by
  conv=>rhs; rw [← List.map_id f.columns]
  refine List.map_congr_left fun c _ => ?_
  show c.filter (fun p => !isIn [] p)=c
  rw [List.filter_eq_self]; intro a _; rfl
 unfold withoutF
 rw [this]
theorem not_ltK_nil (hs:Sound f) {l:List Int} (hl:RisN f.pieces.length l):¬ LtK f l []:=by
 have h0:penceP f []=0:=rfl
 have h1:=pence_bound hs (ris_good hs hl) l.length (Nat.le_refl _)
 rw [List.take_of_length_le (Nat.le_refl _)] at h1
 rintro (h | ⟨_,h | ⟨h,h2⟩⟩)
 ·omega
 ·exact absurd h (Nat.not_lt_zero _)
 ·cases l with
  | nil=>cases h2
  | cons x l=>cases h
theorem ref_nil (hs:Sound f) (h:(wholeP f 0).isSome=true):refP f=some ([],0):=by
 have hc:canP f []=true:=by unfold canP; rw [without_nil]; exact h
 cases e:refP f with
 | none=>rw [refP_none hs e (ris_nil _)] at hc; cases hc
 | some x =>
  obtain ⟨h1,h2,h3,h4⟩:=refP_some hs e
  have hx:x.1 = []:=by
   by_cases hx:x.1 = []
   ·exact hx
   ·rcases LtK_total (f:=f) hx with h5 | h5
    ·exact absurd h5 (not_ltK_nil hs h2)
    ·exact absurd h5 (h4 [] (ris_nil _) hc)
  rw [hx] at h1
  obtain ⟨a,b⟩:=x
  simp only at hx h1
  rw [hx,h1]; rfl
theorem first_diff:∀ {a b:List (List Int)} {i:Nat},earlierL a b->(∀ j,j < i->b.getD j []=a.getD j [])->b.getD i [] ≠ a.getD i []->i < a.length->earlier (a.getD i []) (b.getD i [])=true:=by
 intro a
 induction a with
 | nil=>intro b i h; cases h
 | cons x xs ih =>
  intro b i h h1 h2 h3
  match b,h with
  | y :: ys,h =>
   cases i with
   | zero =>
    have h2':¬ x=y:=fun e=>h2 e.symm
    simp only [earlierL,if_neg h2'] at h
    exact h
   | succ i =>
    have h0:y=x:=h1 0 (Nat.succ_pos _)
    simp only [earlierL,if_pos h0.symm] at h
    exact ih h (fun j hj=>h1 (j + 1) (Nat.succ_lt_succ hj)) h2 (Nat.lt_of_succ_lt_succ h3)
theorem lost_lt (hs:Sound f):lostV f < 100000 ↔ (refP f).isSome=true:=by
 unfold lostV
 cases e:refP f with
 | none=>simp
 | some x=>have:=(ref_ok hs _ x e).2.1; simp; omega
theorem stripsE_eq (h:okFrm f=true):stripsE f=if (wholeP f 0).isSome then 0 else 3:=by unfold stripsE; rw [if_pos h]
theorem refuseE_eq (h:okFrm f=true):refuseE f=if (refP f).isSome then 0 else 3:=by unfold refuseE; rw [if_pos h]
theorem best_law (h:okFrm f=true) {lay:List (List Int)} (hl:LayF f 0 lay):stripsE f=0/\stripsV f<=manyL lay/\(manyL lay=stripsV f->lay=lockR f ∨ earlierL (lockR f) lay):=by
 have hs:=sound_of h
 have h1:=whole_of hl
 rw [stripsE_eq h,h1]
 unfold stripsV lockR
 rw [if_pos h]
 cases e:wholeP f 0 with
 | none=>rw [e] at h1; cases h1
 | some x =>
  obtain ⟨_,_,h4⟩:=whole_some e
  exact ⟨rfl,h4 lay hl⟩
end Go.Sh
namespace Go.Ab
open Go Go.RowKit Go.Proofs Go.Sh Go.En
def s76 (f:Frm) (lay:List (List Int)):CallSpec:={ args:=[vFrm f,aIntss lay],res:=bv (layB f lay),pre:=Sound f/\lay.length<=big /\ ∀ i,(lay.getD i []).length<=big }
def h76a (f:Frm) (lay:List (List Int)):Hint:={ X:=Nat,M:=fun i=>[(5,.vec 5000),(6,iv i)],H:=fun i=>[(5000,.vec 3 1 f.strips.length (fun q=>[iv (usedL (lay.take i) q)]))],I:=fun i=>i<=lay.length /\ ∀ j,j < i->layAt f lay j=true,mu:=fun i=>lay.length - i,x0:=(0:Nat),nx:=fun i=>i + 1 }
def h76b (f:Frm) (lay:List (List Int)) (i:Nat):Hint:={ X:=Nat,M:=fun k=>[(7,iv k)],H:=fun k=>[(5000,.vec 3 1 f.strips.length (fun q=>[iv (usedIn lay i k q)]))],I:=fun k=>k<=f.strips.length,mu:=fun k=>f.strips.length - k,x0:=(0:Nat),nx:=fun k=>k + 1 }
def c76 (f:Frm) (lay:List (List Int)):CallSpec:=s81 f (usedR f lay)
def e6 (f:Frm):List (Nat × OB):=[(48,.cells 26 (cFrm f))]
def s16 (f:Frm) (lay:List (List Int)):CallSpec:={ args:=[vFrm f,aIntss lay],res:=bv true,pre:=fitsF f/\lay.length<=big /\ ∀ i,(lay.getD i []).length<=big }
def h16 (f:Frm) (lay:List (List Int)):Hint:={ X:=Nat,M:=fun i=>[(14,iv i)],I:=fun i=>i<=(lockR f).length /\ ∀ j,j < i->lay.getD j []=(lockR f).getD j [],mu:=fun i=>(lockR f).length - i,x0:=(0:Nat),nx:=fun i=>i + 1 }
end Go.Ab
namespace Go.Ab
open Go Go.RowKit Go.Proofs Go.Sh Go.En
theorem w76 (f:Frm) (lay:List (List Int))
  (o0:(Sound f/\lay.length<=big /\ ∀ (i:Nat),(lay.getD i []).length<=big)->(!decide ((↑(lay.length):Int)=(↑(f.columns.length):Int)))=true->false=layB f lay)
  (o1:(Sound f/\lay.length<=big /\ ∀ (i:Nat),(lay.getD i []).length<=big)->(!decide ((↑(lay.length):Int)=(↑(f.columns.length):Int)))=false->0<=(↑(f.strips.length):Int))
  (o2:(Sound f/\lay.length<=big /\ ∀ (i:Nat),(lay.getD i []).length<=big)->(!decide ((↑(lay.length):Int)=(↑(f.columns.length):Int)))=false->(↑(f.strips.length):Int)<=65536)
  (o3:(Sound f/\lay.length<=big /\ ∀ (i:Nat),(lay.getD i []).length<=big)->(!decide ((↑(lay.length):Int)=(↑(f.columns.length):Int)))=false->0=(↑0:Int))
  (o4:(Sound f/\lay.length<=big /\ ∀ (i:Nat),(lay.getD i []).length<=big)->(!decide ((↑(lay.length):Int)=(↑(f.columns.length):Int)))=false -> ∀ (i2:Nat),i2 < f.strips.length -> [iv 0] = [iv (usedL (List.take 0 lay) i2)])
  (o5:(Sound f/\lay.length<=big /\ ∀ (i:Nat),(lay.getD i []).length<=big)->(!decide ((↑(lay.length):Int)=(↑(f.columns.length):Int)))=false->0<=lay.length /\ ∀ (j:Nat),j < 0->layAt f lay j=true)
  (o6:(Sound f/\lay.length<=big /\ ∀ (i:Nat),(lay.getD i []).length<=big)->(!decide ((↑(lay.length):Int)=(↑(f.columns.length):Int)))=false -> ∀ (x1:Nat),(x1<=lay.length /\ ∀ (j:Nat),j < x1->layAt f lay j=true)->decide ((x1:Int) < (↑(lay.length):Int))=true->0<=(x1:Int))
  (o7:(Sound f/\lay.length<=big /\ ∀ (i:Nat),(lay.getD i []).length<=big)->(!decide ((↑(lay.length):Int)=(↑(f.columns.length):Int)))=false -> ∀ (x1:Nat),(x1<=lay.length /\ ∀ (j:Nat),j < x1->layAt f lay j=true)->decide ((x1:Int) < (↑(lay.length):Int))=true->(x1:Int) < (↑(lay.length):Int))
  (o8:(Sound f/\lay.length<=big /\ ∀ (i:Nat),(lay.getD i []).length<=big)->(!decide ((↑(lay.length):Int)=(↑(f.columns.length):Int)))=false -> ∀ (x1:Nat),(x1<=lay.length /\ ∀ (j:Nat),j < x1->layAt f lay j=true)->decide ((x1:Int) < (↑(lay.length):Int))=true->(!!decide ((↑((lay.getD x1 []).length):Int)=(↑(f.strips.length):Int)))=true->0<=(x1:Int))
  (o9:(Sound f/\lay.length<=big /\ ∀ (i:Nat),(lay.getD i []).length<=big)->(!decide ((↑(lay.length):Int)=(↑(f.columns.length):Int)))=false -> ∀ (x1:Nat),(x1<=lay.length /\ ∀ (j:Nat),j < x1->layAt f lay j=true)->decide ((x1:Int) < (↑(lay.length):Int))=true->(!!decide ((↑((lay.getD x1 []).length):Int)=(↑(f.strips.length):Int)))=true->(x1:Int) < (↑(lay.length):Int))
  (o10:(Sound f/\lay.length<=big /\ ∀ (i:Nat),(lay.getD i []).length<=big)->(!decide ((↑(lay.length):Int)=(↑(f.columns.length):Int)))=false -> ∀ (x1:Nat),(x1<=lay.length /\ ∀ (j:Nat),j < x1->layAt f lay j=true)->decide ((x1:Int) < (↑(lay.length):Int))=true->(!!decide ((↑((lay.getD x1 []).length):Int)=(↑(f.strips.length):Int)))=true->fitsF f)
  (o11:(Sound f/\lay.length<=big /\ ∀ (i:Nat),(lay.getD i []).length<=big)->(!decide ((↑(lay.length):Int)=(↑(f.columns.length):Int)))=false -> ∀ (x1:Nat),(x1<=lay.length /\ ∀ (j:Nat),j < x1->layAt f lay j=true)->decide ((x1:Int) < (↑(lay.length):Int))=true->(!!decide ((↑((lay.getD x1 []).length):Int)=(↑(f.strips.length):Int)))=true->(lay.getD x1 []).length<=big)
  (o12:(Sound f/\lay.length<=big /\ ∀ (i:Nat),(lay.getD i []).length<=big)->(!decide ((↑(lay.length):Int)=(↑(f.columns.length):Int)))=false -> ∀ (x1:Nat),(x1<=lay.length /\ ∀ (j:Nat),j < x1->layAt f lay j=true)->decide ((x1:Int) < (↑(lay.length):Int))=true->(!decide ((↑((lay.getD x1 []).length):Int)=(↑(f.strips.length):Int)))=false->(!!decide ((↑((lay.getD x1 []).length):Int)=(↑(f.strips.length):Int)))=true)
  (o13:(Sound f/\lay.length<=big /\ ∀ (i:Nat),(lay.getD i []).length<=big)->(!decide ((↑(lay.length):Int)=(↑(f.columns.length):Int)))=false -> ∀ (x1:Nat),(x1<=lay.length /\ ∀ (j:Nat),j < x1->layAt f lay j=true)->decide ((x1:Int) < (↑(lay.length):Int))=true->(bif !decide ((↑((lay.getD x1 []).length):Int)=(↑(f.strips.length):Int)) then true else !isSet f (lay.getD x1 []))=true->false=layB f lay)
  (o14:(Sound f/\lay.length<=big /\ ∀ (i:Nat),(lay.getD i []).length<=big)->(!decide ((↑(lay.length):Int)=(↑(f.columns.length):Int)))=false -> ∀ (x1:Nat),(x1<=lay.length /\ ∀ (j:Nat),j < x1->layAt f lay j=true)->decide ((x1:Int) < (↑(lay.length):Int))=true->(bif !decide ((↑((lay.getD x1 []).length):Int)=(↑(f.strips.length):Int)) then true else !isSet f (lay.getD x1 []))=false->0=(↑0:Int))
  (o15:(Sound f/\lay.length<=big /\ ∀ (i:Nat),(lay.getD i []).length<=big)->(!decide ((↑(lay.length):Int)=(↑(f.columns.length):Int)))=false -> ∀ (x1:Nat),(x1<=lay.length /\ ∀ (j:Nat),j < x1->layAt f lay j=true)->decide ((x1:Int) < (↑(lay.length):Int))=true->(bif !decide ((↑((lay.getD x1 []).length):Int)=(↑(f.strips.length):Int)) then true else !isSet f (lay.getD x1 []))=false -> ∀ (i23:Nat),i23 < f.strips.length -> [iv (usedL (List.take x1 lay) i23)] = [iv (usedIn lay x1 0 i23)])
  (o16:(Sound f/\lay.length<=big /\ ∀ (i:Nat),(lay.getD i []).length<=big)->(!decide ((↑(lay.length):Int)=(↑(f.columns.length):Int)))=false -> ∀ (x1:Nat),(x1<=lay.length /\ ∀ (j:Nat),j < x1->layAt f lay j=true)->decide ((x1:Int) < (↑(lay.length):Int))=true->(bif !decide ((↑((lay.getD x1 []).length):Int)=(↑(f.strips.length):Int)) then true else !isSet f (lay.getD x1 []))=false->0<=f.strips.length)
  (o17:(Sound f/\lay.length<=big /\ ∀ (i:Nat),(lay.getD i []).length<=big)->(!decide ((↑(lay.length):Int)=(↑(f.columns.length):Int)))=false -> ∀ (x1:Nat),(x1<=lay.length /\ ∀ (j:Nat),j < x1->layAt f lay j=true)->decide ((x1:Int) < (↑(lay.length):Int))=true->(bif !decide ((↑((lay.getD x1 []).length):Int)=(↑(f.strips.length):Int)) then true else !isSet f (lay.getD x1 []))=false -> ∀ (x22:Nat),x22<=f.strips.length->decide ((x22:Int) < (↑(f.strips.length):Int))=true->0<=(x22:Int))
  (o18:(Sound f/\lay.length<=big /\ ∀ (i:Nat),(lay.getD i []).length<=big)->(!decide ((↑(lay.length):Int)=(↑(f.columns.length):Int)))=false -> ∀ (x1:Nat),(x1<=lay.length /\ ∀ (j:Nat),j < x1->layAt f lay j=true)->decide ((x1:Int) < (↑(lay.length):Int))=true->(bif !decide ((↑((lay.getD x1 []).length):Int)=(↑(f.strips.length):Int)) then true else !isSet f (lay.getD x1 []))=false -> ∀ (x22:Nat),x22<=f.strips.length->decide ((x22:Int) < (↑(f.strips.length):Int))=true->(x22:Int) < (↑(f.strips.length):Int))
  (o19:(Sound f/\lay.length<=big /\ ∀ (i:Nat),(lay.getD i []).length<=big)->(!decide ((↑(lay.length):Int)=(↑(f.columns.length):Int)))=false -> ∀ (x1:Nat),(x1<=lay.length /\ ∀ (j:Nat),j < x1->layAt f lay j=true)->decide ((x1:Int) < (↑(lay.length):Int))=true->(bif !decide ((↑((lay.getD x1 []).length):Int)=(↑(f.strips.length):Int)) then true else !isSet f (lay.getD x1 []))=false -> ∀ (x22:Nat),x22<=f.strips.length->decide ((x22:Int) < (↑(f.strips.length):Int))=true->x22 < f.strips.length)
  (o20:(Sound f/\lay.length<=big /\ ∀ (i:Nat),(lay.getD i []).length<=big)->(!decide ((↑(lay.length):Int)=(↑(f.columns.length):Int)))=false -> ∀ (x1:Nat),(x1<=lay.length /\ ∀ (j:Nat),j < x1->layAt f lay j=true)->decide ((x1:Int) < (↑(lay.length):Int))=true->(bif !decide ((↑((lay.getD x1 []).length):Int)=(↑(f.strips.length):Int)) then true else !isSet f (lay.getD x1 []))=false -> ∀ (x22:Nat),x22<=f.strips.length->decide ((x22:Int) < (↑(f.strips.length):Int))=true->0<=(x1:Int))
  (o21:(Sound f/\lay.length<=big /\ ∀ (i:Nat),(lay.getD i []).length<=big)->(!decide ((↑(lay.length):Int)=(↑(f.columns.length):Int)))=false -> ∀ (x1:Nat),(x1<=lay.length /\ ∀ (j:Nat),j < x1->layAt f lay j=true)->decide ((x1:Int) < (↑(lay.length):Int))=true->(bif !decide ((↑((lay.getD x1 []).length):Int)=(↑(f.strips.length):Int)) then true else !isSet f (lay.getD x1 []))=false -> ∀ (x22:Nat),x22<=f.strips.length->decide ((x22:Int) < (↑(f.strips.length):Int))=true->(x1:Int) < (↑(lay.length):Int))
  (o22:(Sound f/\lay.length<=big /\ ∀ (i:Nat),(lay.getD i []).length<=big)->(!decide ((↑(lay.length):Int)=(↑(f.columns.length):Int)))=false -> ∀ (x1:Nat),(x1<=lay.length /\ ∀ (j:Nat),j < x1->layAt f lay j=true)->decide ((x1:Int) < (↑(lay.length):Int))=true->(bif !decide ((↑((lay.getD x1 []).length):Int)=(↑(f.strips.length):Int)) then true else !isSet f (lay.getD x1 []))=false -> ∀ (x22:Nat),x22<=f.strips.length->decide ((x22:Int) < (↑(f.strips.length):Int))=true->0<=(x22:Int))
  (o23:(Sound f/\lay.length<=big /\ ∀ (i:Nat),(lay.getD i []).length<=big)->(!decide ((↑(lay.length):Int)=(↑(f.columns.length):Int)))=false -> ∀ (x1:Nat),(x1<=lay.length /\ ∀ (j:Nat),j < x1->layAt f lay j=true)->decide ((x1:Int) < (↑(lay.length):Int))=true->(bif !decide ((↑((lay.getD x1 []).length):Int)=(↑(f.strips.length):Int)) then true else !isSet f (lay.getD x1 []))=false -> ∀ (x22:Nat),x22<=f.strips.length->decide ((x22:Int) < (↑(f.strips.length):Int))=true->(x22:Int) < (↑((lay.getD x1 []).length):Int))
  (o24:(Sound f/\lay.length<=big /\ ∀ (i:Nat),(lay.getD i []).length<=big)->(!decide ((↑(lay.length):Int)=(↑(f.columns.length):Int)))=false -> ∀ (x1:Nat),(x1<=lay.length /\ ∀ (j:Nat),j < x1->layAt f lay j=true)->decide ((x1:Int) < (↑(lay.length):Int))=true->(bif !decide ((↑((lay.getD x1 []).length):Int)=(↑(f.strips.length):Int)) then true else !isSet f (lay.getD x1 []))=false -> ∀ (x22:Nat),x22<=f.strips.length->decide ((x22:Int) < (↑(f.strips.length):Int))=true->inI (usedIn lay x1 x22 x22 + (lay.getD x1 []).getD x22 0))
  (o25:(Sound f/\lay.length<=big /\ ∀ (i:Nat),(lay.getD i []).length<=big)->(!decide ((↑(lay.length):Int)=(↑(f.columns.length):Int)))=false -> ∀ (x1:Nat),(x1<=lay.length /\ ∀ (j:Nat),j < x1->layAt f lay j=true)->decide ((x1:Int) < (↑(lay.length):Int))=true->(bif !decide ((↑((lay.getD x1 []).length):Int)=(↑(f.strips.length):Int)) then true else !isSet f (lay.getD x1 []))=false -> ∀ (x22:Nat),x22<=f.strips.length->decide ((x22:Int) < (↑(f.strips.length):Int))=true->0<=(x22:Int))
  (o26:(Sound f/\lay.length<=big /\ ∀ (i:Nat),(lay.getD i []).length<=big)->(!decide ((↑(lay.length):Int)=(↑(f.columns.length):Int)))=false -> ∀ (x1:Nat),(x1<=lay.length /\ ∀ (j:Nat),j < x1->layAt f lay j=true)->decide ((x1:Int) < (↑(lay.length):Int))=true->(bif !decide ((↑((lay.getD x1 []).length):Int)=(↑(f.strips.length):Int)) then true else !isSet f (lay.getD x1 []))=false -> ∀ (x22:Nat),x22<=f.strips.length->decide ((x22:Int) < (↑(f.strips.length):Int))=true->(x22:Int) < (↑(f.strips.length):Int))
  (o27:(Sound f/\lay.length<=big /\ ∀ (i:Nat),(lay.getD i []).length<=big)->(!decide ((↑(lay.length):Int)=(↑(f.columns.length):Int)))=false -> ∀ (x1:Nat),(x1<=lay.length /\ ∀ (j:Nat),j < x1->layAt f lay j=true)->decide ((x1:Int) < (↑(lay.length):Int))=true->(bif !decide ((↑((lay.getD x1 []).length):Int)=(↑(f.strips.length):Int)) then true else !isSet f (lay.getD x1 []))=false -> ∀ (x22:Nat),x22<=f.strips.length->decide ((x22:Int) < (↑(f.strips.length):Int))=true->x22 < f.strips.length)
  (o28:(Sound f/\lay.length<=big /\ ∀ (i:Nat),(lay.getD i []).length<=big)->(!decide ((↑(lay.length):Int)=(↑(f.columns.length):Int)))=false -> ∀ (x1:Nat),(x1<=lay.length /\ ∀ (j:Nat),j < x1->layAt f lay j=true)->decide ((x1:Int) < (↑(lay.length):Int))=true->(bif !decide ((↑((lay.getD x1 []).length):Int)=(↑(f.strips.length):Int)) then true else !isSet f (lay.getD x1 []))=false -> ∀ (x22:Nat),x22<=f.strips.length->decide ((x22:Int) < (↑(f.strips.length):Int))=true->inI ((x22:Int) + 1))
  (o29:(Sound f/\lay.length<=big /\ ∀ (i:Nat),(lay.getD i []).length<=big)->(!decide ((↑(lay.length):Int)=(↑(f.columns.length):Int)))=false -> ∀ (x1:Nat),(x1<=lay.length /\ ∀ (j:Nat),j < x1->layAt f lay j=true)->decide ((x1:Int) < (↑(lay.length):Int))=true->(bif !decide ((↑((lay.getD x1 []).length):Int)=(↑(f.strips.length):Int)) then true else !isSet f (lay.getD x1 []))=false -> ∀ (x22:Nat),x22<=f.strips.length->decide ((x22:Int) < (↑(f.strips.length):Int))=true->(x22:Int) + 1=(↑(x22 + 1):Int))
  (o30:(Sound f/\lay.length<=big /\ ∀ (i:Nat),(lay.getD i []).length<=big)->(!decide ((↑(lay.length):Int)=(↑(f.columns.length):Int)))=false -> ∀ (x1:Nat),(x1<=lay.length /\ ∀ (j:Nat),j < x1->layAt f lay j=true)->decide ((x1:Int) < (↑(lay.length):Int))=true->(bif !decide ((↑((lay.getD x1 []).length):Int)=(↑(f.strips.length):Int)) then true else !isSet f (lay.getD x1 []))=false -> ∀ (x22:Nat),x22<=f.strips.length->decide ((x22:Int) < (↑(f.strips.length):Int))=true -> ∀ (i26:Nat),i26 < f.strips.length->Decidable.rec (fun (h:¬i26=x22)=>[iv (usedIn lay x1 x22 i26)]) (fun (h:i26=x22)=>[iv (usedIn lay x1 x22 x22 + (lay.getD x1 []).getD x22 0)] ++ []) (instDecidableEqNat i26 x22) = [iv (usedIn lay x1 (x22 + 1) i26)])
  (o31:(Sound f/\lay.length<=big /\ ∀ (i:Nat),(lay.getD i []).length<=big)->(!decide ((↑(lay.length):Int)=(↑(f.columns.length):Int)))=false -> ∀ (x1:Nat),(x1<=lay.length /\ ∀ (j:Nat),j < x1->layAt f lay j=true)->decide ((x1:Int) < (↑(lay.length):Int))=true->(bif !decide ((↑((lay.getD x1 []).length):Int)=(↑(f.strips.length):Int)) then true else !isSet f (lay.getD x1 []))=false -> ∀ (x22:Nat),x22<=f.strips.length->decide ((x22:Int) < (↑(f.strips.length):Int))=true->x22 + 1<=f.strips.length)
  (o32:(Sound f/\lay.length<=big /\ ∀ (i:Nat),(lay.getD i []).length<=big)->(!decide ((↑(lay.length):Int)=(↑(f.columns.length):Int)))=false -> ∀ (x1:Nat),(x1<=lay.length /\ ∀ (j:Nat),j < x1->layAt f lay j=true)->decide ((x1:Int) < (↑(lay.length):Int))=true->(bif !decide ((↑((lay.getD x1 []).length):Int)=(↑(f.strips.length):Int)) then true else !isSet f (lay.getD x1 []))=false -> ∀ (x22:Nat),x22<=f.strips.length->decide ((x22:Int) < (↑(f.strips.length):Int))=true->f.strips.length - (x22 + 1) < f.strips.length - x22)
  (o33:(Sound f/\lay.length<=big /\ ∀ (i:Nat),(lay.getD i []).length<=big)->(!decide ((↑(lay.length):Int)=(↑(f.columns.length):Int)))=false -> ∀ (x1:Nat),(x1<=lay.length /\ ∀ (j:Nat),j < x1->layAt f lay j=true)->decide ((x1:Int) < (↑(lay.length):Int))=true->(bif !decide ((↑((lay.getD x1 []).length):Int)=(↑(f.strips.length):Int)) then true else !isSet f (lay.getD x1 []))=false -> ∀ (x22:Nat),x22<=f.strips.length->decide ((x22:Int) < (↑(f.strips.length):Int))=false->0<=(x1:Int))
  (o34:(Sound f/\lay.length<=big /\ ∀ (i:Nat),(lay.getD i []).length<=big)->(!decide ((↑(lay.length):Int)=(↑(f.columns.length):Int)))=false -> ∀ (x1:Nat),(x1<=lay.length /\ ∀ (j:Nat),j < x1->layAt f lay j=true)->decide ((x1:Int) < (↑(lay.length):Int))=true->(bif !decide ((↑((lay.getD x1 []).length):Int)=(↑(f.strips.length):Int)) then true else !isSet f (lay.getD x1 []))=false -> ∀ (x22:Nat),x22<=f.strips.length->decide ((x22:Int) < (↑(f.strips.length):Int))=false->(x1:Int) < (↑(f.columns.length):Int))
  (o35:(Sound f/\lay.length<=big /\ ∀ (i:Nat),(lay.getD i []).length<=big)->(!decide ((↑(lay.length):Int)=(↑(f.columns.length):Int)))=false -> ∀ (x1:Nat),(x1<=lay.length /\ ∀ (j:Nat),j < x1->layAt f lay j=true)->decide ((x1:Int) < (↑(lay.length):Int))=true->(bif !decide ((↑((lay.getD x1 []).length):Int)=(↑(f.strips.length):Int)) then true else !isSet f (lay.getD x1 []))=false -> ∀ (x22:Nat),x22<=f.strips.length->decide ((x22:Int) < (↑(f.strips.length):Int))=false->goodL f (col f x1))
  (o36:(Sound f/\lay.length<=big /\ ∀ (i:Nat),(lay.getD i []).length<=big)->(!decide ((↑(lay.length):Int)=(↑(f.columns.length):Int)))=false -> ∀ (x1:Nat),(x1<=lay.length /\ ∀ (j:Nat),j < x1->layAt f lay j=true)->decide ((x1:Int) < (↑(lay.length):Int))=true->(bif !decide ((↑((lay.getD x1 []).length):Int)=(↑(f.strips.length):Int)) then true else !isSet f (lay.getD x1 []))=false -> ∀ (x22:Nat),x22<=f.strips.length->decide ((x22:Int) < (↑(f.strips.length):Int))=false->0<=(x1:Int))
  (o37:(Sound f/\lay.length<=big /\ ∀ (i:Nat),(lay.getD i []).length<=big)->(!decide ((↑(lay.length):Int)=(↑(f.columns.length):Int)))=false -> ∀ (x1:Nat),(x1<=lay.length /\ ∀ (j:Nat),j < x1->layAt f lay j=true)->decide ((x1:Int) < (↑(lay.length):Int))=true->(bif !decide ((↑((lay.getD x1 []).length):Int)=(↑(f.strips.length):Int)) then true else !isSet f (lay.getD x1 []))=false -> ∀ (x22:Nat),x22<=f.strips.length->decide ((x22:Int) < (↑(f.strips.length):Int))=false->(x1:Int) < (↑(lay.length):Int))
  (o38:(Sound f/\lay.length<=big /\ ∀ (i:Nat),(lay.getD i []).length<=big)->(!decide ((↑(lay.length):Int)=(↑(f.columns.length):Int)))=false -> ∀ (x1:Nat),(x1<=lay.length /\ ∀ (j:Nat),j < x1->layAt f lay j=true)->decide ((x1:Int) < (↑(lay.length):Int))=true->(bif !decide ((↑((lay.getD x1 []).length):Int)=(↑(f.strips.length):Int)) then true else !isSet f (lay.getD x1 []))=false -> ∀ (x22:Nat),x22<=f.strips.length->decide ((x22:Int) < (↑(f.strips.length):Int))=false->isSet f (lay.getD x1 [])=true)
  (o39:(Sound f/\lay.length<=big /\ ∀ (i:Nat),(lay.getD i []).length<=big)->(!decide ((↑(lay.length):Int)=(↑(f.columns.length):Int)))=false -> ∀ (x1:Nat),(x1<=lay.length /\ ∀ (j:Nat),j < x1->layAt f lay j=true)->decide ((x1:Int) < (↑(lay.length):Int))=true->(bif !decide ((↑((lay.getD x1 []).length):Int)=(↑(f.strips.length):Int)) then true else !isSet f (lay.getD x1 []))=false -> ∀ (x22:Nat),x22<=f.strips.length->decide ((x22:Int) < (↑(f.strips.length):Int))=false->inI ((highP f (col f x1)).lo + pointsP f (lay.getD x1 [])))
  (o40:(Sound f/\lay.length<=big /\ ∀ (i:Nat),(lay.getD i []).length<=big)->(!decide ((↑(lay.length):Int)=(↑(f.columns.length):Int)))=false -> ∀ (x1:Nat),(x1<=lay.length /\ ∀ (j:Nat),j < x1->layAt f lay j=true)->decide ((x1:Int) < (↑(lay.length):Int))=true->(bif !decide ((↑((lay.getD x1 []).length):Int)=(↑(f.strips.length):Int)) then true else !isSet f (lay.getD x1 []))=false -> ∀ (x22:Nat),x22<=f.strips.length->decide ((x22:Int) < (↑(f.strips.length):Int))=false->(!!lockedAt f ((highP f (col f x1)).lo + pointsP f (lay.getD x1 [])))=true->inI ((highP f (col f x1)).hi + pointsP f (lay.getD x1 [])))
  (o41:(Sound f/\lay.length<=big /\ ∀ (i:Nat),(lay.getD i []).length<=big)->(!decide ((↑(lay.length):Int)=(↑(f.columns.length):Int)))=false -> ∀ (x1:Nat),(x1<=lay.length /\ ∀ (j:Nat),j < x1->layAt f lay j=true)->decide ((x1:Int) < (↑(lay.length):Int))=true->(bif !decide ((↑((lay.getD x1 []).length):Int)=(↑(f.strips.length):Int)) then true else !isSet f (lay.getD x1 []))=false -> ∀ (x22:Nat),x22<=f.strips.length->decide ((x22:Int) < (↑(f.strips.length):Int))=false->(!lockedAt f ((highP f (col f x1)).lo + pointsP f (lay.getD x1 [])))=false->(!!lockedAt f ((highP f (col f x1)).lo + pointsP f (lay.getD x1 [])))=true)
  (o42:(Sound f/\lay.length<=big /\ ∀ (i:Nat),(lay.getD i []).length<=big)->(!decide ((↑(lay.length):Int)=(↑(f.columns.length):Int)))=false -> ∀ (x1:Nat),(x1<=lay.length /\ ∀ (j:Nat),j < x1->layAt f lay j=true)->decide ((x1:Int) < (↑(lay.length):Int))=true->(bif !decide ((↑((lay.getD x1 []).length):Int)=(↑(f.strips.length):Int)) then true else !isSet f (lay.getD x1 []))=false -> ∀ (x22:Nat),x22<=f.strips.length->decide ((x22:Int) < (↑(f.strips.length):Int))=false->(bif !lockedAt f ((highP f (col f x1)).lo + pointsP f (lay.getD x1 [])) then true else !lockedAt f ((highP f (col f x1)).hi + pointsP f (lay.getD x1 [])))=true->false=layB f lay)
  (o43:(Sound f/\lay.length<=big /\ ∀ (i:Nat),(lay.getD i []).length<=big)->(!decide ((↑(lay.length):Int)=(↑(f.columns.length):Int)))=false -> ∀ (x1:Nat),(x1<=lay.length /\ ∀ (j:Nat),j < x1->layAt f lay j=true)->decide ((x1:Int) < (↑(lay.length):Int))=true->(bif !decide ((↑((lay.getD x1 []).length):Int)=(↑(f.strips.length):Int)) then true else !isSet f (lay.getD x1 []))=false -> ∀ (x22:Nat),x22<=f.strips.length->decide ((x22:Int) < (↑(f.strips.length):Int))=false->(bif !lockedAt f ((highP f (col f x1)).lo + pointsP f (lay.getD x1 [])) then true else !lockedAt f ((highP f (col f x1)).hi + pointsP f (lay.getD x1 [])))=false->inI ((x1:Int) + 1))
  (o44:(Sound f/\lay.length<=big /\ ∀ (i:Nat),(lay.getD i []).length<=big)->(!decide ((↑(lay.length):Int)=(↑(f.columns.length):Int)))=false -> ∀ (x1:Nat),(x1<=lay.length /\ ∀ (j:Nat),j < x1->layAt f lay j=true)->decide ((x1:Int) < (↑(lay.length):Int))=true->(bif !decide ((↑((lay.getD x1 []).length):Int)=(↑(f.strips.length):Int)) then true else !isSet f (lay.getD x1 []))=false -> ∀ (x22:Nat),x22<=f.strips.length->decide ((x22:Int) < (↑(f.strips.length):Int))=false->(bif !lockedAt f ((highP f (col f x1)).lo + pointsP f (lay.getD x1 [])) then true else !lockedAt f ((highP f (col f x1)).hi + pointsP f (lay.getD x1 [])))=false->(x1:Int) + 1=(↑(x1 + 1):Int))
  (o45:(Sound f/\lay.length<=big /\ ∀ (i:Nat),(lay.getD i []).length<=big)->(!decide ((↑(lay.length):Int)=(↑(f.columns.length):Int)))=false -> ∀ (x1:Nat),(x1<=lay.length /\ ∀ (j:Nat),j < x1->layAt f lay j=true)->decide ((x1:Int) < (↑(lay.length):Int))=true->(bif !decide ((↑((lay.getD x1 []).length):Int)=(↑(f.strips.length):Int)) then true else !isSet f (lay.getD x1 []))=false -> ∀ (x22:Nat),x22<=f.strips.length->decide ((x22:Int) < (↑(f.strips.length):Int))=false->(bif !lockedAt f ((highP f (col f x1)).lo + pointsP f (lay.getD x1 [])) then true else !lockedAt f ((highP f (col f x1)).hi + pointsP f (lay.getD x1 [])))=false -> ∀ (i48:Nat),i48 < f.strips.length -> [iv (usedIn lay x1 x22 i48)] = [iv (usedL (List.take (x1 + 1) lay) i48)])
  (o46:(Sound f/\lay.length<=big /\ ∀ (i:Nat),(lay.getD i []).length<=big)->(!decide ((↑(lay.length):Int)=(↑(f.columns.length):Int)))=false -> ∀ (x1:Nat),(x1<=lay.length /\ ∀ (j:Nat),j < x1->layAt f lay j=true)->decide ((x1:Int) < (↑(lay.length):Int))=true->(bif !decide ((↑((lay.getD x1 []).length):Int)=(↑(f.strips.length):Int)) then true else !isSet f (lay.getD x1 []))=false -> ∀ (x22:Nat),x22<=f.strips.length->decide ((x22:Int) < (↑(f.strips.length):Int))=false->(bif !lockedAt f ((highP f (col f x1)).lo + pointsP f (lay.getD x1 [])) then true else !lockedAt f ((highP f (col f x1)).hi + pointsP f (lay.getD x1 [])))=false->x1 + 1<=lay.length /\ ∀ (j:Nat),j < x1 + 1->layAt f lay j=true)
  (o47:(Sound f/\lay.length<=big /\ ∀ (i:Nat),(lay.getD i []).length<=big)->(!decide ((↑(lay.length):Int)=(↑(f.columns.length):Int)))=false -> ∀ (x1:Nat),(x1<=lay.length /\ ∀ (j:Nat),j < x1->layAt f lay j=true)->decide ((x1:Int) < (↑(lay.length):Int))=true->(bif !decide ((↑((lay.getD x1 []).length):Int)=(↑(f.strips.length):Int)) then true else !isSet f (lay.getD x1 []))=false -> ∀ (x22:Nat),x22<=f.strips.length->decide ((x22:Int) < (↑(f.strips.length):Int))=false->(bif !lockedAt f ((highP f (col f x1)).lo + pointsP f (lay.getD x1 [])) then true else !lockedAt f ((highP f (col f x1)).hi + pointsP f (lay.getD x1 [])))=false->lay.length - (x1 + 1) < lay.length - x1)
  (o48:(Sound f/\lay.length<=big /\ ∀ (i:Nat),(lay.getD i []).length<=big)->(!decide ((↑(lay.length):Int)=(↑(f.columns.length):Int)))=false -> ∀ (x1:Nat),(x1<=lay.length /\ ∀ (j:Nat),j < x1->layAt f lay j=true)->decide ((x1:Int) < (↑(lay.length):Int))=false->f.strips.length=(usedR f lay).length)
  (o49:(Sound f/\lay.length<=big /\ ∀ (i:Nat),(lay.getD i []).length<=big)->(!decide ((↑(lay.length):Int)=(↑(f.columns.length):Int)))=false -> ∀ (x1:Nat),(x1<=lay.length /\ ∀ (j:Nat),j < x1->layAt f lay j=true)->decide ((x1:Int) < (↑(lay.length):Int))=false -> ∀ (i50:Nat),i50 < (usedR f lay).length -> [iv (usedL (List.take x1 lay) i50)] = [iv ((usedR f lay).getD i50 0)])
  (o50:(Sound f/\lay.length<=big /\ ∀ (i:Nat),(lay.getD i []).length<=big)->(!decide ((↑(lay.length):Int)=(↑(f.columns.length):Int)))=false -> ∀ (x1:Nat),(x1<=lay.length /\ ∀ (j:Nat),j < x1->layAt f lay j=true)->decide ((x1:Int) < (↑(lay.length):Int))=false->fitsF f)
  (o51:(Sound f/\lay.length<=big /\ ∀ (i:Nat),(lay.getD i []).length<=big)->(!decide ((↑(lay.length):Int)=(↑(f.columns.length):Int)))=false -> ∀ (x1:Nat),(x1<=lay.length /\ ∀ (j:Nat),j < x1->layAt f lay j=true)->decide ((x1:Int) < (↑(lay.length):Int))=false->(usedR f lay).length<=big)
  (o52:(Sound f/\lay.length<=big /\ ∀ (i:Nat),(lay.getD i []).length<=big)->(!decide ((↑(lay.length):Int)=(↑(f.columns.length):Int)))=false -> ∀ (x1:Nat),(x1<=lay.length /\ ∀ (j:Nat),j < x1->layAt f lay j=true)->decide ((x1:Int) < (↑(lay.length):Int))=false->isSet f (usedR f lay)=layB f lay) :
  Triple Try.prog 76 (s76 f lay):=by
 refine triple_of Try.func76 rfl Try.call76 T0_ok _ rfl rfl rfl rfl (Nat.le_of_ble_eq_true (by kernel_rfl)) (fun _ _ _ _ h=>h) ?_
 intro hpre C hC _ hE
 obtain ⟨P,w0,E0,av,hA,ro,df⟩:=C
 obtain ⟨rfl,rfl,rfl⟩:=hC
 refine swp_seq ?_
 refine zR [1,2] [0] (Ak 2 tv) ?_
 refine swp_seq ?_
 refine swp_seq ?_
 refine zR [1,2,15] [0] (Ak 6 tv) ?_
 refine zI (!decide ((↑(lay.length):Int)=(↑(f.columns.length):Int))) (fun y0 => ?_) (fun y0 => ?_)
 ·refine swp_seq ?_
  refine zR [4] [] (Ak 1 tv) ?_
  refine swp_ret ?_
  exact zT [] (An (Ak 1 tv) (An (An (cb (o0 hpre y0)) (zr nilN)) (An (zr true) (An (zr true) (zr true)))))
 ·refine swp_skip ?_
  refine swp_seq ?_
  refine zR [1,2,5] [0,88] (Ak 3 (An (An (zr ((↑(f.strips.length):Int))) (An (o1 hpre y0) (o2 hpre y0))) (Ak 1 tv))) ?_
  refine swp_seq ?_
  refine swp_seq ?_
  refine zR [1,2,5,6] [0,88] (Ak 1 tv) ?_
  refine swp_block ?_
  refine zL (Hint.ann (h76a f lay) [(1,aIntss lay),(2,AV.ptr 0 [])] [(0,OB.cells 26 (cFrm f))] 10112) (zE hE [] [(0,.same 0),(5000,.same 88)] [1] [0] (An (An (An (zr (aIntss lay)) (zr true)) (An (An (zr (some (Src.same 0))) (zr nilP)) (An (zr (some (Src.same 88))) (An (An (ci (o3 hpre y0)) (zr nilN)) tv)))) (An (An (An (zr (OB.cells 26 (cFrm f))) (zr true)) (An (An (zr 3) (An (zr 1) (An (zr f.strips.length) (fun (i2:Nat)=>(fun (y3:i2 < f.strips.length)=>(o4 hpre y0 i2 y3)))))) tv)) (An (zr true) (zr true))))) (o5 hpre y0) (fun (x1:Nat) hx1 => ?_)
  refine swp_seq ?_
  refine swp_seq ?_
  refine zR [1,2,5,6,23] [0,5000] (Ak 4 tv) ?_
  refine zI (decide ((x1:Int) < (↑(lay.length):Int))) (fun y4 => ?_) (fun y4 => ?_)
  ·refine swp_skip ?_
   refine swp_seq ?_
   refine swp_block ?_
   refine swp_seq ?_
   refine swp_seq ?_
   refine zC ([(15,CallSpec.eq (s81 f (lay.getD x1 [])) [true,true])]) [1,2,5,6,43] [0,5000] (Ak 2 (An (An (o6 hpre y0 x1 hx1 y4) (o7 hpre y0 x1 hx1 y4)) (Ak 7 (An (fun (y5:(!!decide ((↑((lay.getD x1 []).length):Int)=(↑(f.strips.length):Int)))=true)=>(An (Ak 1 tv) tv)) (An (fun (y6:(!!decide ((↑((lay.getD x1 []).length):Int)=(↑(f.strips.length):Int)))=true)=>(An (Ak 1 tv) tv)) (An (fun (y7:(!!decide ((↑((lay.getD x1 []).length):Int)=(↑(f.strips.length):Int)))=true)=>(An (Ak 1 tv) tv)) (An (fun (y8:(!!decide ((↑((lay.getD x1 []).length):Int)=(↑(f.strips.length):Int)))=true)=>(An (An (fun (y9:(!!decide ((↑((lay.getD x1 []).length):Int)=(↑(f.strips.length):Int)))=true)=>y8) (An (fun (y10:(!!decide ((↑((lay.getD x1 []).length):Int)=(↑(f.strips.length):Int)))=true)=>y8) tv)) (An (o8 hpre y0 x1 hx1 y4 y8) (o9 hpre y0 x1 hx1 y4 y8)))) (An (fun (y11:(!!decide ((↑((lay.getD x1 []).length):Int)=(↑(f.strips.length):Int)))=true)=>(An (An (fun (y12:(!!decide ((↑((lay.getD x1 []).length):Int)=(↑(f.strips.length):Int)))=true)=>y11) tv) tv)) (An (fun (y13:(!!decide ((↑((lay.getD x1 []).length):Int)=(↑(f.strips.length):Int)))=true)=>(An (Ak 1 (An (fun (y14:(!!decide ((↑((lay.getD x1 []).length):Int)=(↑(f.strips.length):Int)))=true)=>y13) (An (fun (y15:(!!decide ((↑((lay.getD x1 []).length):Int)=(↑(f.strips.length):Int)))=true)=>y13) tv))) (An (An (zr (AV.agg (cFrm f))) (An (zr (aInts (lay.getD x1 []))) tv)) (An (t81 (f) (lay.getD x1 [])) (An (An (o10 hpre y0 x1 hx1 y4 y13) (o11 hpre y0 x1 hx1 y4 y13)) (Ak 1 (fun (i16:Env)=>tv))))))) (An (fun (y17:(!!decide ((↑((lay.getD x1 []).length):Int)=(↑(f.strips.length):Int)))=true)=>(An (An (fun (y18:(!!decide ((↑((lay.getD x1 []).length):Int)=(↑(f.strips.length):Int)))=true)=>y17) tv) tv)) (An (An (fun (y19:(!decide ((↑((lay.getD x1 []).length):Int)=(↑(f.strips.length):Int)))=true)=>tv) (fun (y20:(!decide ((↑((lay.getD x1 []).length):Int)=(↑(f.strips.length):Int)))=false)=>(o12 hpre y0 x1 hx1 y4 y20))) tv))))))))))) ?_
   refine zI (bif !decide ((↑((lay.getD x1 []).length):Int)=(↑(f.strips.length):Int)) then true else !isSet f (lay.getD x1 [])) (fun y21 => ?_) (fun y21 => ?_)
   ·refine swp_seq ?_
    refine zR [4] [] (Ak 1 tv) ?_
    refine swp_ret ?_
    exact zT [] (An (Ak 1 tv) (An (An (cb (o13 hpre y0 x1 hx1 y4 y21)) (zr nilN)) (An (zr true) (An (zr true) (zr true)))))
   ·refine swp_skip ?_
    refine swp_seq ?_
    refine swp_seq ?_
    refine zR [1,2,5,6,7] [0,5000] (Ak 1 tv) ?_
    refine swp_block ?_
    refine zL (Hint.ann (h76b f lay x1) [(1,aIntss lay),(2,AV.ptr 0 []),(5,AV.vec 5000),(6,iv (x1:Int))] [(0,OB.cells 26 (cFrm f))] 20296) (zE hE [] [(0,.same 0),(5000,.same 5000)] [1,6] [0] (An (An (An (zr (aIntss lay)) (zr true)) (An (An (zr (some (Src.same 0))) (zr nilP)) (An (zr (some (Src.same 5000))) (An (An (zr (iv (x1:Int))) (zr true)) (An (An (ci (o14 hpre y0 x1 hx1 y4 y21)) (zr nilN)) tv))))) (An (An (An (zr (OB.cells 26 (cFrm f))) (zr true)) (An (An (zr 3) (An (zr 1) (An (zr f.strips.length) (fun (i23:Nat)=>(fun (y24:i23 < f.strips.length)=>(o15 hpre y0 x1 hx1 y4 y21 i23 y24)))))) tv)) (An (zr true) (zr true))))) (o16 hpre y0 x1 hx1 y4 y21) (fun (x22:Nat) hx22 => ?_)
    refine swp_seq ?_
    refine swp_seq ?_
    refine zR [1,2,5,6,7,47] [0,5000] (Ak 4 tv) ?_
    refine zI (decide ((x22:Int) < (↑(f.strips.length):Int))) (fun y25 => ?_) (fun y25 => ?_)
    ·refine swp_skip ?_
     refine swp_seq ?_
     refine swp_block ?_
     refine zR [1,2,5,6,7] [0,5000] (Ak 2 (An (An (o17 hpre y0 x1 hx1 y4 y21 x22 hx22 y25) (o18 hpre y0 x1 hx1 y4 y21 x22 hx22 y25)) (An (An (o19 hpre y0 x1 hx1 y4 y21 x22 hx22 y25) tv) (Ak 2 (An (An (o20 hpre y0 x1 hx1 y4 y21 x22 hx22 y25) (o21 hpre y0 x1 hx1 y4 y21 x22 hx22 y25)) (Ak 2 (An (An (o22 hpre y0 x1 hx1 y4 y21 x22 hx22 y25) (o23 hpre y0 x1 hx1 y4 y21 x22 hx22 y25)) (Ak 1 (An (o24 hpre y0 x1 hx1 y4 y21 x22 hx22 y25) (An (An (o25 hpre y0 x1 hx1 y4 y21 x22 hx22 y25) (o26 hpre y0 x1 hx1 y4 y21 x22 hx22 y25)) (An (An (o27 hpre y0 x1 hx1 y4 y21 x22 hx22 y25) tv) tv))))))))))) ?_
     refine zR [1,2,5,6,7] [0,5000] (Ak 1 (An (o28 hpre y0 x1 hx1 y4 y21 x22 hx22 y25) (Ak 1 tv))) ?_
     exact zn (zE hE [] [(0,.same 0),(5000,.same 5000)] [1,6] [0] (An (An (An (zr (aIntss lay)) (zr true)) (An (An (zr (some (Src.same 0))) (zr nilP)) (An (zr (some (Src.same 5000))) (An (An (zr (iv (x1:Int))) (zr true)) (An (An (ci (o29 hpre y0 x1 hx1 y4 y21 x22 hx22 y25)) (zr nilN)) tv))))) (An (An (An (zr (OB.cells 26 (cFrm f))) (zr true)) (An (An (zr 3) (An (zr 1) (An (zr f.strips.length) (fun (i26:Nat)=>(fun (y27:i26 < f.strips.length)=>(o30 hpre y0 x1 hx1 y4 y21 x22 hx22 y25 i26 y27)))))) tv)) (An (zr true) (zr true))))) (o31 hpre y0 x1 hx1 y4 y21 x22 hx22 y25) (o32 hpre y0 x1 hx1 y4 y21 x22 hx22 y25)
    ·refine swp_exit ?_
     refine swp_seq ?_
     refine zC ([(6,CallSpec.eq (s92 f (col f x1)) [true,true])]) [1,2,5,6,8] [0,5000,20384] (Ak 4 (An (An (o33 hpre y0 x1 hx1 y4 y21 x22 hx22 y25) (o34 hpre y0 x1 hx1 y4 y21 x22 hx22 y25)) (Ak 1 (An (An (An (zr (AV.agg (cFrm f))) (An (zr (aInts (col f x1))) tv)) (An (t92 (f) (col f x1)) (An (An hpre.1 (o35 hpre y0 x1 hx1 y4 y21 x22 hx22 y25)) (Ak 1 (fun (i28:Env)=>tv))))) (Ak 2 tv))))) ?_
     refine swp_seq ?_
     refine zC ([(5,CallSpec.eq (s23 f (lay.getD x1 [])) [true,true])]) [1,2,5,6,8,9] [0,5000,20384] (Ak 3 (An (An (o36 hpre y0 x1 hx1 y4 y21 x22 hx22 y25) (o37 hpre y0 x1 hx1 y4 y21 x22 hx22 y25)) (Ak 1 (An (An (An (zr (AV.agg (cFrm f))) (An (zr (aInts (lay.getD x1 []))) tv)) (An (t23 (f) (lay.getD x1 [])) (An (An hpre.1 (o38 hpre y0 x1 hx1 y4 y21 x22 hx22 y25)) (Ak 1 (fun (i29:Env)=>tv))))) (Ak 1 tv))))) ?_
     refine swp_seq ?_
     refine zC ([(5,CallSpec.eq (s74 f ((highP f (col f x1)).lo + pointsP f (lay.getD x1 []))) [true,true]),(13,CallSpec.eq (s74 f ((highP f (col f x1)).hi + pointsP f (lay.getD x1 []))) [true,true])]) [1,2,5,6,91] [0,5000] (Ak 4 (An (o39 hpre y0 x1 hx1 y4 y21 x22 hx22 y25) (An (An (An (zr (AV.agg (cFrm f))) (An (zr (iv ((highP f (col f x1)).lo + pointsP f (lay.getD x1 [])))) tv)) (An (t74 (f) ((highP f (col f x1)).lo + pointsP f (lay.getD x1 []))) (An hpre.1 (Ak 1 (fun (i30:Env)=>tv))))) (Ak 2 (An (fun (y31:(!!lockedAt f ((highP f (col f x1)).lo + pointsP f (lay.getD x1 [])))=true)=>(An (Ak 1 tv) tv)) (An (fun (y32:(!!lockedAt f ((highP f (col f x1)).lo + pointsP f (lay.getD x1 [])))=true)=>(An (Ak 1 tv) tv)) (An (fun (y33:(!!lockedAt f ((highP f (col f x1)).lo + pointsP f (lay.getD x1 [])))=true)=>(An (An (fun (y34:(!!lockedAt f ((highP f (col f x1)).lo + pointsP f (lay.getD x1 [])))=true)=>y33) tv) tv)) (An (fun (y35:(!!lockedAt f ((highP f (col f x1)).lo + pointsP f (lay.getD x1 [])))=true)=>(An (Ak 1 tv) tv)) (An (fun (y36:(!!lockedAt f ((highP f (col f x1)).lo + pointsP f (lay.getD x1 [])))=true)=>(An (An (fun (y37:(!!lockedAt f ((highP f (col f x1)).lo + pointsP f (lay.getD x1 [])))=true)=>y36) (An (fun (y38:(!!lockedAt f ((highP f (col f x1)).lo + pointsP f (lay.getD x1 [])))=true)=>y36) tv)) (o40 hpre y0 x1 hx1 y4 y21 x22 hx22 y25 y36))) (An (fun (y39:(!!lockedAt f ((highP f (col f x1)).lo + pointsP f (lay.getD x1 [])))=true)=>(An (Ak 1 (An (fun (y40:(!!lockedAt f ((highP f (col f x1)).lo + pointsP f (lay.getD x1 [])))=true)=>y39) (An (fun (y41:(!!lockedAt f ((highP f (col f x1)).lo + pointsP f (lay.getD x1 [])))=true)=>y39) tv))) (An (An (zr (AV.agg (cFrm f))) (An (zr (iv ((highP f (col f x1)).hi + pointsP f (lay.getD x1 [])))) tv)) (An (t74 (f) ((highP f (col f x1)).hi + pointsP f (lay.getD x1 []))) (An hpre.1 (Ak 1 (fun (i42:Env)=>tv))))))) (An (fun (y43:(!!lockedAt f ((highP f (col f x1)).lo + pointsP f (lay.getD x1 [])))=true)=>(An (An (fun (y44:(!!lockedAt f ((highP f (col f x1)).lo + pointsP f (lay.getD x1 [])))=true)=>y43) tv) tv)) (An (An (fun (y45:(!lockedAt f ((highP f (col f x1)).lo + pointsP f (lay.getD x1 [])))=true)=>tv) (fun (y46:(!lockedAt f ((highP f (col f x1)).lo + pointsP f (lay.getD x1 [])))=false)=>(o41 hpre y0 x1 hx1 y4 y21 x22 hx22 y25 y46))) tv)))))))))))) ?_
     refine zI (bif !lockedAt f ((highP f (col f x1)).lo + pointsP f (lay.getD x1 [])) then true else !lockedAt f ((highP f (col f x1)).hi + pointsP f (lay.getD x1 []))) (fun y47 => ?_) (fun y47 => ?_)
     ·refine swp_seq ?_
      refine zR [4] [] (Ak 1 tv) ?_
      refine swp_ret ?_
      exact zT [] (An (Ak 1 tv) (An (An (cb (o42 hpre y0 x1 hx1 y4 y21 x22 hx22 y25 y47)) (zr nilN)) (An (zr true) (An (zr true) (zr true)))))
     ·refine swp_skip ?_
      refine zR [1,2,5,6] [0,5000] (Ak 1 (An (o43 hpre y0 x1 hx1 y4 y21 x22 hx22 y25 y47) (Ak 1 tv))) ?_
      exact zn (zE hE [] [(0,.same 0),(5000,.same 5000)] [1] [0] (An (An (An (zr (aIntss lay)) (zr true)) (An (An (zr (some (Src.same 0))) (zr nilP)) (An (zr (some (Src.same 5000))) (An (An (ci (o44 hpre y0 x1 hx1 y4 y21 x22 hx22 y25 y47)) (zr nilN)) tv)))) (An (An (An (zr (OB.cells 26 (cFrm f))) (zr true)) (An (An (zr 3) (An (zr 1) (An (zr f.strips.length) (fun (i48:Nat)=>(fun (y49:i48 < f.strips.length)=>(o45 hpre y0 x1 hx1 y4 y21 x22 hx22 y25 y47 i48 y49)))))) tv)) (An (zr true) (zr true))))) (o46 hpre y0 x1 hx1 y4 y21 x22 hx22 y25 y47) (o47 hpre y0 x1 hx1 y4 y21 x22 hx22 y25 y47)
  ·refine swp_exit ?_
   refine swp_seq ?_
   refine zC ([(2,CallSpec.eq (c76 f lay) [true,false])]) [4] [] (Ak 2 (An (An (An (zr (AV.agg (cFrm f))) (An (An (zr 1) (An (o48 hpre y0 x1 hx1 y4) (fun (i50:Nat)=>(fun (y51:i50 < (usedR f lay).length)=>(o49 hpre y0 x1 hx1 y4 i50 y51))))) tv)) (An (t81 (f) (usedR f lay)) (An (An (o50 hpre y0 x1 hx1 y4) (o51 hpre y0 x1 hx1 y4)) (Ak 1 (fun (i52:Env)=>tv))))) (Ak 1 tv))) ?_
   refine swp_ret ?_
   exact zT [] (An (Ak 1 tv) (An (An (cb (o52 hpre y0 x1 hx1 y4)) (zr nilN)) (An (zr true) (An (zr true) (zr true)))))
theorem t76 (f:Frm) (lay:List (List Int)):Triple Try.prog 76 (s76 f lay):=by
 apply w76
 all_goals (rintro ⟨hs,hl,hb⟩; intro h; have hst:=hs.strips; have hcl:=hs.columns)
 case o0 =>
  cases e:layB f lay with
  | false=>rfl
  | true =>
   have:=(layB_iff.1 e).1
   rw [this] at h; simp at h
 all_goals (simp only [Bool.not_eq_false',decide_eq_true_eq] at h)
 case o1=>exact Int.natCast_nonneg _
 case o2=>omega
 case o3=>rfl
 case o4=>intro i hi; rfl
 case o5=>exact ⟨Nat.zero_le _,fun j hj=>absurd hj (Nat.not_lt_zero _)⟩
 all_goals (rintro x ⟨hx,hx3⟩ hx2; simp only [decide_eq_true_eq,decide_eq_false_iff_not] at hx2)
 case o48=>exact (usedR_len _ _).symm
 case o49=>intro i hi; rw [usedR_len] at hi; rw [usedR_get f lay hi,List.take_of_length_le (by omega)]
 case o50=>exact small_fits (sound_small hs)
 case o51=>rw [usedR_len]; simp only [big]; omega
 case o52 =>
  rw [Bool.eq_iff_iff,layB_iff]
  exact ⟨fun e=>⟨by omega,fun i hi=>hx3 i (by omega),e⟩,fun e=>e.2.2⟩
 case o6 | o7=>omega
 case o8 | o9=>intro _; omega
 case o10=>intro _; exact small_fits (sound_small hs)
 case o11=>intro _; exact hb x
 case o12=>intro h2; rw [h2]; rfl
 case o13 =>
  intro h2
  cases e:layB f lay with
  | false=>rfl
  | true =>
   have:=(layB_iff.1 e).2.1 x (by omega)
   unfold layAt at this
   rw [Bool.and_eq_true] at this
   have h5:=(isSet_iff.1 this.1).1
   rw [this.1,h5] at h2
   simp at h2
 all_goals (intro h2; have hset:isSet f (lay.getD x [])=true:=by (revert h2; cases isSet f (lay.getD x []) <;> simp))
 all_goals (have hsi:=isSet_iff.1 hset; have hpt:=pts_bound hs hset; have hg:=col_good hs x; have hhb:=high_bound' hs hg)
 case o14=>rfl
 case o15=>intro i hi; unfold usedIn; rw [if_neg (Nat.not_lt_zero _)]
 case o16=>exact Nat.zero_le _
 all_goals (intro y hy hy2; simp only [decide_eq_true_eq,decide_eq_false_iff_not] at hy2)
 case o24 =>
  have hu:usedIn lay x y y=usedL (lay.take x) y:=by unfold usedIn; rw [if_neg (Nat.lt_irrefl _)]
  have h5:=hsi.2 y (by omega)
  have h6:=(hs.strip y (by omega)).2.2
  have hall:∀ k,k<=x->0<=usedL (lay.take k) y/\usedL (lay.take k) y<=4 * k:=by
   intro k
   induction k with
   | zero=>intro _; exact ⟨Int.le_refl _,Int.le_refl _⟩
   | succ k ih =>
    intro hk
    have h7:=ih (by omega)
    have h8:=hx3 k (by omega)
    unfold layAt at h8
    rw [Bool.and_eq_true] at h8
    have h9:=isSet_iff.1 h8.1
    have h10:=h9.2 y (by omega)
    rw [used_take lay (by omega)]
    omega
  have:=hall x (Nat.le_refl _)
  rw [hu]; simp only [inI]; omega
 case o30 =>
  intro i hi
  refine rec_ei (fun h => ?_) (fun h => ?_)
  ·unfold usedIn
   by_cases h5:i < y
   ·rw [if_pos h5,if_pos (by omega)]
   ·rw [if_neg h5,if_neg (by omega)]
  ·subst h
   unfold usedIn
   rw [if_neg (Nat.lt_irrefl _),if_pos (Nat.lt_succ_self _),used_take lay (by omega)]; rfl
 case o35=>exact hg
 case o38=>exact hset
 case o17 | o18 | o19 | o20 | o21 | o22 | o23 | o25 | o26 | o27 | o28 | o29 | o31 | o32 | o33 | o34 | o36 | o37 | o39=>first | omega | (simp only [inI]; omega)
 all_goals (intro h3)
 case o40=>simp only [inI]; omega
 case o41=>rw [h3]; rfl
 case o42 =>
  cases e:layB f lay with
  | false=>rfl
  | true =>
   have:=(layB_iff.1 e).2.1 x (by omega)
   unfold layAt sureP at this
   rw [Bool.and_eq_true,Bool.and_eq_true] at this
   rw [this.2.1,this.2.2] at h3
   exact absurd h3 (by decide)
 case o45=>intro i hi; unfold usedIn; rw [if_pos (by omega)]
 case o46 =>
  refine ⟨by omega,lt_succ_cases hx3 ?_⟩
  obtain ⟨a,b⟩:=nbor h3
  unfold layAt sureP
  rw [hset,a,b]; rfl
 all_goals (first | omega | (simp only [inI]; omega))
theorem f00:decide ((0:Int)=0)=true:=rfl
theorem f03:decide ((0:Int)=3)=false:=rfl
theorem f30:decide ((3:Int)=0)=false:=rfl
theorem f33:decide ((3:Int)=3)=true:=rfl
theorem nbor2z {a b:Bool} (h:(bif !a then true else b)=false):a=true/\b=false:=by cases a <;> cases b <;> first | exact ⟨rfl,rfl⟩ | cases h
theorem w16 (f:Frm) (lay:List (List Int))
  (o0:(fitsF f/\lay.length<=big /\ ∀ (i:Nat),(lay.getD i []).length<=big)->(!readyF f)=false->(!!readyF f)=true)
  (o1:(fitsF f/\lay.length<=big /\ ∀ (i:Nat),(lay.getD i []).length<=big)->(bif !readyF f then true else decide (40 < (↑(lay.length):Int)))=false->okFrm f=true)
  (o2:(fitsF f/\lay.length<=big /\ ∀ (i:Nat),(lay.getD i []).length<=big)->(bif !readyF f then true else decide (40 < (↑(lay.length):Int)))=false->okFrm f=true)
  (o3:(fitsF f/\lay.length<=big /\ ∀ (i:Nat),(lay.getD i []).length<=big)->(bif !readyF f then true else decide (40 < (↑(lay.length):Int)))=false->smallF f)
  (o4:(fitsF f/\lay.length<=big /\ ∀ (i:Nat),(lay.getD i []).length<=big)->(bif !readyF f then true else decide (40 < (↑(lay.length):Int)))=false->smallF f)
  (o5:(fitsF f/\lay.length<=big /\ ∀ (i:Nat),(lay.getD i []).length<=big)->(bif !readyF f then true else decide (40 < (↑(lay.length):Int)))=false->(!(decide (stripsE f=0) || decide (stripsE f=3)))=false->(!!(decide (stripsE f=0) || decide (stripsE f=3)))=true)
  (o6:(fitsF f/\lay.length<=big /\ ∀ (i:Nat),(lay.getD i []).length<=big)->(bif !readyF f then true else decide (40 < (↑(lay.length):Int)))=false->(bif !(decide (stripsE f=0) || decide (stripsE f=3)) then true else !decide (stripsE f=0) == decide (stripsV f < 100000))=false->(!bif !(decide (stripsE f=0) || decide (stripsE f=3)) then true else !decide (stripsE f=0) == decide (stripsV f < 100000))=true)
  (o7:(fitsF f/\lay.length<=big /\ ∀ (i:Nat),(lay.getD i []).length<=big)->(bif !readyF f then true else decide (40 < (↑(lay.length):Int)))=false->(bif bif !(decide (stripsE f=0) || decide (stripsE f=3)) then true else !decide (stripsE f=0) == decide (stripsV f < 100000) then true else !(decide (refuseE f=0) || decide (refuseE f=3)))=false->(!bif bif !(decide (stripsE f=0) || decide (stripsE f=3)) then true else !decide (stripsE f=0) == decide (stripsV f < 100000) then true else !(decide (refuseE f=0) || decide (refuseE f=3)))=true)
  (o8:(fitsF f/\lay.length<=big /\ ∀ (i:Nat),(lay.getD i []).length<=big)->(bif !readyF f then true else decide (40 < (↑(lay.length):Int)))=false->((!bif bif bif !(decide (stripsE f=0) || decide (stripsE f=3)) then true else !decide (stripsE f=0) == decide (stripsV f < 100000) then true else !(decide (refuseE f=0) || decide (refuseE f=3)) then true else !decide (refuseE f=0) == decide (lostV f < 100000)) && decide (stripsE f=0))=true->(!decide (lostV f=0))=false->((!bif bif bif !(decide (stripsE f=0) || decide (stripsE f=3)) then true else !decide (stripsE f=0) == decide (stripsV f < 100000) then true else !(decide (refuseE f=0) || decide (refuseE f=3)) then true else !decide (refuseE f=0) == decide (lostV f < 100000)) && decide (stripsE f=0) && !!decide (lostV f=0))=true)
  (o9:(fitsF f/\lay.length<=big /\ ∀ (i:Nat),(lay.getD i []).length<=big)->(bif !readyF f then true else decide (40 < (↑(lay.length):Int)))=false->((!bif bif bif !(decide (stripsE f=0) || decide (stripsE f=3)) then true else !decide (stripsE f=0) == decide (stripsV f < 100000) then true else !(decide (refuseE f=0) || decide (refuseE f=3)) then true else !decide (refuseE f=0) == decide (lostV f < 100000)) && decide (stripsE f=0) && !bif !decide (lostV f=0) then true else decide (0 < (↑((refuseL f).length):Int)))=true->Sound f)
  (o10:(fitsF f/\lay.length<=big /\ ∀ (i:Nat),(lay.getD i []).length<=big)->(bif !readyF f then true else decide (40 < (↑(lay.length):Int)))=false->((!bif bif bif !(decide (stripsE f=0) || decide (stripsE f=3)) then true else !decide (stripsE f=0) == decide (stripsV f < 100000) then true else !(decide (refuseE f=0) || decide (refuseE f=3)) then true else !decide (refuseE f=0) == decide (lostV f < 100000)) && decide (stripsE f=0) && !bif !decide (lostV f=0) then true else decide (0 < (↑((refuseL f).length):Int)))=true->(lockR f).length<=big)
  (o11:(fitsF f/\lay.length<=big /\ ∀ (i:Nat),(lay.getD i []).length<=big)->(bif !readyF f then true else decide (40 < (↑(lay.length):Int)))=false->((!bif bif bif !(decide (stripsE f=0) || decide (stripsE f=3)) then true else !decide (stripsE f=0) == decide (stripsV f < 100000) then true else !(decide (refuseE f=0) || decide (refuseE f=3)) then true else !decide (refuseE f=0) == decide (lostV f < 100000)) && decide (stripsE f=0) && !bif !decide (lostV f=0) then true else decide (0 < (↑((refuseL f).length):Int)))=true -> ∀ (i85:Nat),((lockR f).getD i85 []).length<=big)
  (o12:(fitsF f/\lay.length<=big /\ ∀ (i:Nat),(lay.getD i []).length<=big)->(bif !readyF f then true else decide (40 < (↑(lay.length):Int)))=false->((!bif bif bif !(decide (stripsE f=0) || decide (stripsE f=3)) then true else !decide (stripsE f=0) == decide (stripsV f < 100000) then true else !(decide (refuseE f=0) || decide (refuseE f=3)) then true else !decide (refuseE f=0) == decide (lostV f < 100000)) && decide (stripsE f=0))=true->(bif !decide (lostV f=0) then true else decide (0 < (↑((refuseL f).length):Int)))=false->((!bif bif bif !(decide (stripsE f=0) || decide (stripsE f=3)) then true else !decide (stripsE f=0) == decide (stripsV f < 100000) then true else !(decide (refuseE f=0) || decide (refuseE f=3)) then true else !decide (refuseE f=0) == decide (lostV f < 100000)) && decide (stripsE f=0) && !bif !decide (lostV f=0) then true else decide (0 < (↑((refuseL f).length):Int)))=true)
  (o13:(fitsF f/\lay.length<=big /\ ∀ (i:Nat),(lay.getD i []).length<=big)->(bif !readyF f then true else decide (40 < (↑(lay.length):Int)))=false->((!bif bif bif !(decide (stripsE f=0) || decide (stripsE f=3)) then true else !decide (stripsE f=0) == decide (stripsV f < 100000) then true else !(decide (refuseE f=0) || decide (refuseE f=3)) then true else !decide (refuseE f=0) == decide (lostV f < 100000)) && decide (stripsE f=0) && !bif bif !decide (lostV f=0) then true else decide (0 < (↑((refuseL f).length):Int)) then true else !layB f (lockR f))=true->okLay (lockR f))
  (o14:(fitsF f/\lay.length<=big /\ ∀ (i:Nat),(lay.getD i []).length<=big)->(bif !readyF f then true else decide (40 < (↑(lay.length):Int)))=false->((!bif bif bif !(decide (stripsE f=0) || decide (stripsE f=3)) then true else !decide (stripsE f=0) == decide (stripsV f < 100000) then true else !(decide (refuseE f=0) || decide (refuseE f=3)) then true else !decide (refuseE f=0) == decide (lostV f < 100000)) && decide (stripsE f=0))=true->(bif bif !decide (lostV f=0) then true else decide (0 < (↑((refuseL f).length):Int)) then true else !layB f (lockR f))=false->((!bif bif bif !(decide (stripsE f=0) || decide (stripsE f=3)) then true else !decide (stripsE f=0) == decide (stripsV f < 100000) then true else !(decide (refuseE f=0) || decide (refuseE f=3)) then true else !decide (refuseE f=0) == decide (lostV f < 100000)) && decide (stripsE f=0) && !bif bif !decide (lostV f=0) then true else decide (0 < (↑((refuseL f).length):Int)) then true else !layB f (lockR f))=true)
  (o15:(fitsF f/\lay.length<=big /\ ∀ (i:Nat),(lay.getD i []).length<=big)->(bif !readyF f then true else decide (40 < (↑(lay.length):Int)))=false->(!bif bif bif !(decide (stripsE f=0) || decide (stripsE f=3)) then true else !decide (stripsE f=0) == decide (stripsV f < 100000) then true else !(decide (refuseE f=0) || decide (refuseE f=3)) then true else !decide (refuseE f=0) == decide (lostV f < 100000))=true->decide (stripsE f=0)=true->((!bif bif bif !(decide (stripsE f=0) || decide (stripsE f=3)) then true else !decide (stripsE f=0) == decide (stripsV f < 100000) then true else !(decide (refuseE f=0) || decide (refuseE f=3)) then true else !decide (refuseE f=0) == decide (lostV f < 100000)) && decide (stripsE f=0))=true)
  (o16:(fitsF f/\lay.length<=big /\ ∀ (i:Nat),(lay.getD i []).length<=big)->(bif !readyF f then true else decide (40 < (↑(lay.length):Int)))=false->(bif bif bif !(decide (stripsE f=0) || decide (stripsE f=3)) then true else !decide (stripsE f=0) == decide (stripsV f < 100000) then true else !(decide (refuseE f=0) || decide (refuseE f=3)) then true else !decide (refuseE f=0) == decide (lostV f < 100000))=false->(!bif bif bif !(decide (stripsE f=0) || decide (stripsE f=3)) then true else !decide (stripsE f=0) == decide (stripsV f < 100000) then true else !(decide (refuseE f=0) || decide (refuseE f=3)) then true else !decide (refuseE f=0) == decide (lostV f < 100000))=true)
  (o17:(fitsF f/\lay.length<=big /\ ∀ (i:Nat),(lay.getD i []).length<=big)->(bif !readyF f then true else decide (40 < (↑(lay.length):Int)))=false->(bif bif bif bif !(decide (stripsE f=0) || decide (stripsE f=3)) then true else !decide (stripsE f=0) == decide (stripsV f < 100000) then true else !(decide (refuseE f=0) || decide (refuseE f=3)) then true else !decide (refuseE f=0) == decide (lostV f < 100000) then true else bif decide (stripsE f=0) then bif bif bif !decide (lostV f=0) then true else decide (0 < (↑((refuseL f).length):Int)) then true else !layB f (lockR f) then true else !decide (manyL (lockR f)=stripsV f) else false)=true->false=true)
  (o18:(fitsF f/\lay.length<=big /\ ∀ (i:Nat),(lay.getD i []).length<=big)->(bif !readyF f then true else decide (40 < (↑(lay.length):Int)))=false->(bif bif bif bif !(decide (stripsE f=0) || decide (stripsE f=3)) then true else !decide (stripsE f=0) == decide (stripsV f < 100000) then true else !(decide (refuseE f=0) || decide (refuseE f=3)) then true else !decide (refuseE f=0) == decide (lostV f < 100000) then true else bif decide (stripsE f=0) then bif bif bif !decide (lostV f=0) then true else decide (0 < (↑((refuseL f).length):Int)) then true else !layB f (lockR f) then true else !decide (manyL (lockR f)=stripsV f) else false)=false->Sound f)
  (o19:(fitsF f/\lay.length<=big /\ ∀ (i:Nat),(lay.getD i []).length<=big)->(bif !readyF f then true else decide (40 < (↑(lay.length):Int)))=false->(bif bif bif bif !(decide (stripsE f=0) || decide (stripsE f=3)) then true else !decide (stripsE f=0) == decide (stripsV f < 100000) then true else !(decide (refuseE f=0) || decide (refuseE f=3)) then true else !decide (refuseE f=0) == decide (lostV f < 100000) then true else bif decide (stripsE f=0) then bif bif bif !decide (lostV f=0) then true else decide (0 < (↑((refuseL f).length):Int)) then true else !layB f (lockR f) then true else !decide (manyL (lockR f)=stripsV f) else false)=false->lay.length<=big)
  (o20:(fitsF f/\lay.length<=big /\ ∀ (i:Nat),(lay.getD i []).length<=big)->(bif !readyF f then true else decide (40 < (↑(lay.length):Int)))=false->(bif bif bif bif !(decide (stripsE f=0) || decide (stripsE f=3)) then true else !decide (stripsE f=0) == decide (stripsV f < 100000) then true else !(decide (refuseE f=0) || decide (refuseE f=3)) then true else !decide (refuseE f=0) == decide (lostV f < 100000) then true else bif decide (stripsE f=0) then bif bif bif !decide (lostV f=0) then true else decide (0 < (↑((refuseL f).length):Int)) then true else !layB f (lockR f) then true else !decide (manyL (lockR f)=stripsV f) else false)=false -> ∀ (i116:Nat),(lay.getD i116 []).length<=big)
  (o21:(fitsF f/\lay.length<=big /\ ∀ (i:Nat),(lay.getD i []).length<=big)->(bif !readyF f then true else decide (40 < (↑(lay.length):Int)))=false->(bif bif bif bif !(decide (stripsE f=0) || decide (stripsE f=3)) then true else !decide (stripsE f=0) == decide (stripsV f < 100000) then true else !(decide (refuseE f=0) || decide (refuseE f=3)) then true else !decide (refuseE f=0) == decide (lostV f < 100000) then true else bif decide (stripsE f=0) then bif bif bif !decide (lostV f=0) then true else decide (0 < (↑((refuseL f).length):Int)) then true else !layB f (lockR f) then true else !decide (manyL (lockR f)=stripsV f) else false)=false->(!layB f lay)=false->okLay lay)
  (o22:(fitsF f/\lay.length<=big /\ ∀ (i:Nat),(lay.getD i []).length<=big)->(bif !readyF f then true else decide (40 < (↑(lay.length):Int)))=false->(bif bif bif bif !(decide (stripsE f=0) || decide (stripsE f=3)) then true else !decide (stripsE f=0) == decide (stripsV f < 100000) then true else !(decide (refuseE f=0) || decide (refuseE f=3)) then true else !decide (refuseE f=0) == decide (lostV f < 100000) then true else bif decide (stripsE f=0) then bif bif bif !decide (lostV f=0) then true else decide (0 < (↑((refuseL f).length):Int)) then true else !layB f (lockR f) then true else !decide (manyL (lockR f)=stripsV f) else false)=false->(!layB f lay)=false->(!decide (stripsE f=0))=false->(!!decide (stripsE f=0))=true)
  (o23:(fitsF f/\lay.length<=big /\ ∀ (i:Nat),(lay.getD i []).length<=big)->(bif !readyF f then true else decide (40 < (↑(lay.length):Int)))=false->(bif bif bif bif !(decide (stripsE f=0) || decide (stripsE f=3)) then true else !decide (stripsE f=0) == decide (stripsV f < 100000) then true else !(decide (refuseE f=0) || decide (refuseE f=3)) then true else !decide (refuseE f=0) == decide (lostV f < 100000) then true else bif decide (stripsE f=0) then bif bif bif !decide (lostV f=0) then true else decide (0 < (↑((refuseL f).length):Int)) then true else !layB f (lockR f) then true else !decide (manyL (lockR f)=stripsV f) else false)=false->(!layB f lay)=false->(bif !decide (stripsE f=0) then true else decide (manyL lay < stripsV f))=true->false=true)
  (o24:(fitsF f/\lay.length<=big /\ ∀ (i:Nat),(lay.getD i []).length<=big)->(bif !readyF f then true else decide (40 < (↑(lay.length):Int)))=false->(bif bif bif bif !(decide (stripsE f=0) || decide (stripsE f=3)) then true else !decide (stripsE f=0) == decide (stripsV f < 100000) then true else !(decide (refuseE f=0) || decide (refuseE f=3)) then true else !decide (refuseE f=0) == decide (lostV f < 100000) then true else bif decide (stripsE f=0) then bif bif bif !decide (lostV f=0) then true else decide (0 < (↑((refuseL f).length):Int)) then true else !layB f (lockR f) then true else !decide (manyL (lockR f)=stripsV f) else false)=false->(!layB f lay)=false->(bif !decide (stripsE f=0) then true else decide (manyL lay < stripsV f))=false->0=(↑0:Int))
  (o25:(fitsF f/\lay.length<=big /\ ∀ (i:Nat),(lay.getD i []).length<=big)->(bif !readyF f then true else decide (40 < (↑(lay.length):Int)))=false->(bif bif bif bif !(decide (stripsE f=0) || decide (stripsE f=3)) then true else !decide (stripsE f=0) == decide (stripsV f < 100000) then true else !(decide (refuseE f=0) || decide (refuseE f=3)) then true else !decide (refuseE f=0) == decide (lostV f < 100000) then true else bif decide (stripsE f=0) then bif bif bif !decide (lostV f=0) then true else decide (0 < (↑((refuseL f).length):Int)) then true else !layB f (lockR f) then true else !decide (manyL (lockR f)=stripsV f) else false)=false->(!layB f lay)=false->(bif !decide (stripsE f=0) then true else decide (manyL lay < stripsV f))=false->0<=(lockR f).length /\ ∀ (j:Nat),j < 0->lay.getD j []=(lockR f).getD j [])
  (o26:(fitsF f/\lay.length<=big /\ ∀ (i:Nat),(lay.getD i []).length<=big)->(bif !readyF f then true else decide (40 < (↑(lay.length):Int)))=false->(bif bif bif bif !(decide (stripsE f=0) || decide (stripsE f=3)) then true else !decide (stripsE f=0) == decide (stripsV f < 100000) then true else !(decide (refuseE f=0) || decide (refuseE f=3)) then true else !decide (refuseE f=0) == decide (lostV f < 100000) then true else bif decide (stripsE f=0) then bif bif bif !decide (lostV f=0) then true else decide (0 < (↑((refuseL f).length):Int)) then true else !layB f (lockR f) then true else !decide (manyL (lockR f)=stripsV f) else false)=false->(!layB f lay)=false->(bif !decide (stripsE f=0) then true else decide (manyL lay < stripsV f))=false -> ∀ (x129:Nat),(x129<=(lockR f).length /\ ∀ (j:Nat),j < x129->lay.getD j []=(lockR f).getD j [])->(bif decide ((x129:Int) < (↑((lockR f).length):Int)) then decide (manyL lay=stripsV f) else false)=true->0<=(x129:Int))
  (o27:(fitsF f/\lay.length<=big /\ ∀ (i:Nat),(lay.getD i []).length<=big)->(bif !readyF f then true else decide (40 < (↑(lay.length):Int)))=false->(bif bif bif bif !(decide (stripsE f=0) || decide (stripsE f=3)) then true else !decide (stripsE f=0) == decide (stripsV f < 100000) then true else !(decide (refuseE f=0) || decide (refuseE f=3)) then true else !decide (refuseE f=0) == decide (lostV f < 100000) then true else bif decide (stripsE f=0) then bif bif bif !decide (lostV f=0) then true else decide (0 < (↑((refuseL f).length):Int)) then true else !layB f (lockR f) then true else !decide (manyL (lockR f)=stripsV f) else false)=false->(!layB f lay)=false->(bif !decide (stripsE f=0) then true else decide (manyL lay < stripsV f))=false -> ∀ (x129:Nat),(x129<=(lockR f).length /\ ∀ (j:Nat),j < x129->lay.getD j []=(lockR f).getD j [])->(bif decide ((x129:Int) < (↑((lockR f).length):Int)) then decide (manyL lay=stripsV f) else false)=true->(x129:Int) < (↑(lay.length):Int))
  (o28:(fitsF f/\lay.length<=big /\ ∀ (i:Nat),(lay.getD i []).length<=big)->(bif !readyF f then true else decide (40 < (↑(lay.length):Int)))=false->(bif bif bif bif !(decide (stripsE f=0) || decide (stripsE f=3)) then true else !decide (stripsE f=0) == decide (stripsV f < 100000) then true else !(decide (refuseE f=0) || decide (refuseE f=3)) then true else !decide (refuseE f=0) == decide (lostV f < 100000) then true else bif decide (stripsE f=0) then bif bif bif !decide (lostV f=0) then true else decide (0 < (↑((refuseL f).length):Int)) then true else !layB f (lockR f) then true else !decide (manyL (lockR f)=stripsV f) else false)=false->(!layB f lay)=false->(bif !decide (stripsE f=0) then true else decide (manyL lay < stripsV f))=false -> ∀ (x129:Nat),(x129<=(lockR f).length /\ ∀ (j:Nat),j < x129->lay.getD j []=(lockR f).getD j [])->(bif decide ((x129:Int) < (↑((lockR f).length):Int)) then decide (manyL lay=stripsV f) else false)=true->0<=(x129:Int))
  (o29:(fitsF f/\lay.length<=big /\ ∀ (i:Nat),(lay.getD i []).length<=big)->(bif !readyF f then true else decide (40 < (↑(lay.length):Int)))=false->(bif bif bif bif !(decide (stripsE f=0) || decide (stripsE f=3)) then true else !decide (stripsE f=0) == decide (stripsV f < 100000) then true else !(decide (refuseE f=0) || decide (refuseE f=3)) then true else !decide (refuseE f=0) == decide (lostV f < 100000) then true else bif decide (stripsE f=0) then bif bif bif !decide (lostV f=0) then true else decide (0 < (↑((refuseL f).length):Int)) then true else !layB f (lockR f) then true else !decide (manyL (lockR f)=stripsV f) else false)=false->(!layB f lay)=false->(bif !decide (stripsE f=0) then true else decide (manyL lay < stripsV f))=false -> ∀ (x129:Nat),(x129<=(lockR f).length /\ ∀ (j:Nat),j < x129->lay.getD j []=(lockR f).getD j [])->(bif decide ((x129:Int) < (↑((lockR f).length):Int)) then decide (manyL lay=stripsV f) else false)=true->(x129:Int) < (↑((lockR f).length):Int))
  (o30:(fitsF f/\lay.length<=big /\ ∀ (i:Nat),(lay.getD i []).length<=big)->(bif !readyF f then true else decide (40 < (↑(lay.length):Int)))=false->(bif bif bif bif !(decide (stripsE f=0) || decide (stripsE f=3)) then true else !decide (stripsE f=0) == decide (stripsV f < 100000) then true else !(decide (refuseE f=0) || decide (refuseE f=3)) then true else !decide (refuseE f=0) == decide (lostV f < 100000) then true else bif decide (stripsE f=0) then bif bif bif !decide (lostV f=0) then true else decide (0 < (↑((refuseL f).length):Int)) then true else !layB f (lockR f) then true else !decide (manyL (lockR f)=stripsV f) else false)=false->(!layB f lay)=false->(bif !decide (stripsE f=0) then true else decide (manyL lay < stripsV f))=false -> ∀ (x129:Nat),(x129<=(lockR f).length /\ ∀ (j:Nat),j < x129->lay.getD j []=(lockR f).getD j [])->(bif decide ((x129:Int) < (↑((lockR f).length):Int)) then decide (manyL lay=stripsV f) else false)=true->(lay.getD x129 []).length<=big)
  (o31:(fitsF f/\lay.length<=big /\ ∀ (i:Nat),(lay.getD i []).length<=big)->(bif !readyF f then true else decide (40 < (↑(lay.length):Int)))=false->(bif bif bif bif !(decide (stripsE f=0) || decide (stripsE f=3)) then true else !decide (stripsE f=0) == decide (stripsV f < 100000) then true else !(decide (refuseE f=0) || decide (refuseE f=3)) then true else !decide (refuseE f=0) == decide (lostV f < 100000) then true else bif decide (stripsE f=0) then bif bif bif !decide (lostV f=0) then true else decide (0 < (↑((refuseL f).length):Int)) then true else !layB f (lockR f) then true else !decide (manyL (lockR f)=stripsV f) else false)=false->(!layB f lay)=false->(bif !decide (stripsE f=0) then true else decide (manyL lay < stripsV f))=false -> ∀ (x129:Nat),(x129<=(lockR f).length /\ ∀ (j:Nat),j < x129->lay.getD j []=(lockR f).getD j [])->(bif decide ((x129:Int) < (↑((lockR f).length):Int)) then decide (manyL lay=stripsV f) else false)=true->(!sameInts (lay.getD x129 []) ((lockR f).getD x129 []))=true->0<=(x129:Int))
  (o32:(fitsF f/\lay.length<=big /\ ∀ (i:Nat),(lay.getD i []).length<=big)->(bif !readyF f then true else decide (40 < (↑(lay.length):Int)))=false->(bif bif bif bif !(decide (stripsE f=0) || decide (stripsE f=3)) then true else !decide (stripsE f=0) == decide (stripsV f < 100000) then true else !(decide (refuseE f=0) || decide (refuseE f=3)) then true else !decide (refuseE f=0) == decide (lostV f < 100000) then true else bif decide (stripsE f=0) then bif bif bif !decide (lostV f=0) then true else decide (0 < (↑((refuseL f).length):Int)) then true else !layB f (lockR f) then true else !decide (manyL (lockR f)=stripsV f) else false)=false->(!layB f lay)=false->(bif !decide (stripsE f=0) then true else decide (manyL lay < stripsV f))=false -> ∀ (x129:Nat),(x129<=(lockR f).length /\ ∀ (j:Nat),j < x129->lay.getD j []=(lockR f).getD j [])->(bif decide ((x129:Int) < (↑((lockR f).length):Int)) then decide (manyL lay=stripsV f) else false)=true->(!sameInts (lay.getD x129 []) ((lockR f).getD x129 []))=true->(x129:Int) < (↑(lay.length):Int))
  (o33:(fitsF f/\lay.length<=big /\ ∀ (i:Nat),(lay.getD i []).length<=big)->(bif !readyF f then true else decide (40 < (↑(lay.length):Int)))=false->(bif bif bif bif !(decide (stripsE f=0) || decide (stripsE f=3)) then true else !decide (stripsE f=0) == decide (stripsV f < 100000) then true else !(decide (refuseE f=0) || decide (refuseE f=3)) then true else !decide (refuseE f=0) == decide (lostV f < 100000) then true else bif decide (stripsE f=0) then bif bif bif !decide (lostV f=0) then true else decide (0 < (↑((refuseL f).length):Int)) then true else !layB f (lockR f) then true else !decide (manyL (lockR f)=stripsV f) else false)=false->(!layB f lay)=false->(bif !decide (stripsE f=0) then true else decide (manyL lay < stripsV f))=false -> ∀ (x129:Nat),(x129<=(lockR f).length /\ ∀ (j:Nat),j < x129->lay.getD j []=(lockR f).getD j [])->(bif decide ((x129:Int) < (↑((lockR f).length):Int)) then decide (manyL lay=stripsV f) else false)=true->(!sameInts (lay.getD x129 []) ((lockR f).getD x129 []))=true->0<=(x129:Int))
  (o34:(fitsF f/\lay.length<=big /\ ∀ (i:Nat),(lay.getD i []).length<=big)->(bif !readyF f then true else decide (40 < (↑(lay.length):Int)))=false->(bif bif bif bif !(decide (stripsE f=0) || decide (stripsE f=3)) then true else !decide (stripsE f=0) == decide (stripsV f < 100000) then true else !(decide (refuseE f=0) || decide (refuseE f=3)) then true else !decide (refuseE f=0) == decide (lostV f < 100000) then true else bif decide (stripsE f=0) then bif bif bif !decide (lostV f=0) then true else decide (0 < (↑((refuseL f).length):Int)) then true else !layB f (lockR f) then true else !decide (manyL (lockR f)=stripsV f) else false)=false->(!layB f lay)=false->(bif !decide (stripsE f=0) then true else decide (manyL lay < stripsV f))=false -> ∀ (x129:Nat),(x129<=(lockR f).length /\ ∀ (j:Nat),j < x129->lay.getD j []=(lockR f).getD j [])->(bif decide ((x129:Int) < (↑((lockR f).length):Int)) then decide (manyL lay=stripsV f) else false)=true->(!sameInts (lay.getD x129 []) ((lockR f).getD x129 []))=true->(x129:Int) < (↑((lockR f).length):Int))
  (o35:(fitsF f/\lay.length<=big /\ ∀ (i:Nat),(lay.getD i []).length<=big)->(bif !readyF f then true else decide (40 < (↑(lay.length):Int)))=false->(bif bif bif bif !(decide (stripsE f=0) || decide (stripsE f=3)) then true else !decide (stripsE f=0) == decide (stripsV f < 100000) then true else !(decide (refuseE f=0) || decide (refuseE f=3)) then true else !decide (refuseE f=0) == decide (lostV f < 100000) then true else bif decide (stripsE f=0) then bif bif bif !decide (lostV f=0) then true else decide (0 < (↑((refuseL f).length):Int)) then true else !layB f (lockR f) then true else !decide (manyL (lockR f)=stripsV f) else false)=false->(!layB f lay)=false->(bif !decide (stripsE f=0) then true else decide (manyL lay < stripsV f))=false -> ∀ (x129:Nat),(x129<=(lockR f).length /\ ∀ (j:Nat),j < x129->lay.getD j []=(lockR f).getD j [])->(bif decide ((x129:Int) < (↑((lockR f).length):Int)) then decide (manyL lay=stripsV f) else false)=true->(!sameInts (lay.getD x129 []) ((lockR f).getD x129 []))=true->(lay.getD x129 []).length<=big)
  (o36:(fitsF f/\lay.length<=big /\ ∀ (i:Nat),(lay.getD i []).length<=big)->(bif !readyF f then true else decide (40 < (↑(lay.length):Int)))=false->(bif bif bif bif !(decide (stripsE f=0) || decide (stripsE f=3)) then true else !decide (stripsE f=0) == decide (stripsV f < 100000) then true else !(decide (refuseE f=0) || decide (refuseE f=3)) then true else !decide (refuseE f=0) == decide (lostV f < 100000) then true else bif decide (stripsE f=0) then bif bif bif !decide (lostV f=0) then true else decide (0 < (↑((refuseL f).length):Int)) then true else !layB f (lockR f) then true else !decide (manyL (lockR f)=stripsV f) else false)=false->(!layB f lay)=false->(bif !decide (stripsE f=0) then true else decide (manyL lay < stripsV f))=false -> ∀ (x129:Nat),(x129<=(lockR f).length /\ ∀ (j:Nat),j < x129->lay.getD j []=(lockR f).getD j [])->(bif decide ((x129:Int) < (↑((lockR f).length):Int)) then decide (manyL lay=stripsV f) else false)=true->(!sameInts (lay.getD x129 []) ((lockR f).getD x129 []))=true->((lockR f).getD x129 []).length<=big)
  (o37:(fitsF f/\lay.length<=big /\ ∀ (i:Nat),(lay.getD i []).length<=big)->(bif !readyF f then true else decide (40 < (↑(lay.length):Int)))=false->(bif bif bif bif !(decide (stripsE f=0) || decide (stripsE f=3)) then true else !decide (stripsE f=0) == decide (stripsV f < 100000) then true else !(decide (refuseE f=0) || decide (refuseE f=3)) then true else !decide (refuseE f=0) == decide (lostV f < 100000) then true else bif decide (stripsE f=0) then bif bif bif !decide (lostV f=0) then true else decide (0 < (↑((refuseL f).length):Int)) then true else !layB f (lockR f) then true else !decide (manyL (lockR f)=stripsV f) else false)=false->(!layB f lay)=false->(bif !decide (stripsE f=0) then true else decide (manyL lay < stripsV f))=false -> ∀ (x129:Nat),(x129<=(lockR f).length /\ ∀ (j:Nat),j < x129->lay.getD j []=(lockR f).getD j [])->(bif decide ((x129:Int) < (↑((lockR f).length):Int)) then decide (manyL lay=stripsV f) else false)=true->(!sameInts (lay.getD x129 []) ((lockR f).getD x129 []))=true->(bif !earlier (lay.getD x129 []) ((lockR f).getD x129 []) then true else false)=true)
  (o38:(fitsF f/\lay.length<=big /\ ∀ (i:Nat),(lay.getD i []).length<=big)->(bif !readyF f then true else decide (40 < (↑(lay.length):Int)))=false->(bif bif bif bif !(decide (stripsE f=0) || decide (stripsE f=3)) then true else !decide (stripsE f=0) == decide (stripsV f < 100000) then true else !(decide (refuseE f=0) || decide (refuseE f=3)) then true else !decide (refuseE f=0) == decide (lostV f < 100000) then true else bif decide (stripsE f=0) then bif bif bif !decide (lostV f=0) then true else decide (0 < (↑((refuseL f).length):Int)) then true else !layB f (lockR f) then true else !decide (manyL (lockR f)=stripsV f) else false)=false->(!layB f lay)=false->(bif !decide (stripsE f=0) then true else decide (manyL lay < stripsV f))=false -> ∀ (x129:Nat),(x129<=(lockR f).length /\ ∀ (j:Nat),j < x129->lay.getD j []=(lockR f).getD j [])->(bif decide ((x129:Int) < (↑((lockR f).length):Int)) then decide (manyL lay=stripsV f) else false)=true->(!sameInts (lay.getD x129 []) ((lockR f).getD x129 []))=false->inI ((x129:Int) + 1))
  (o39:(fitsF f/\lay.length<=big /\ ∀ (i:Nat),(lay.getD i []).length<=big)->(bif !readyF f then true else decide (40 < (↑(lay.length):Int)))=false->(bif bif bif bif !(decide (stripsE f=0) || decide (stripsE f=3)) then true else !decide (stripsE f=0) == decide (stripsV f < 100000) then true else !(decide (refuseE f=0) || decide (refuseE f=3)) then true else !decide (refuseE f=0) == decide (lostV f < 100000) then true else bif decide (stripsE f=0) then bif bif bif !decide (lostV f=0) then true else decide (0 < (↑((refuseL f).length):Int)) then true else !layB f (lockR f) then true else !decide (manyL (lockR f)=stripsV f) else false)=false->(!layB f lay)=false->(bif !decide (stripsE f=0) then true else decide (manyL lay < stripsV f))=false -> ∀ (x129:Nat),(x129<=(lockR f).length /\ ∀ (j:Nat),j < x129->lay.getD j []=(lockR f).getD j [])->(bif decide ((x129:Int) < (↑((lockR f).length):Int)) then decide (manyL lay=stripsV f) else false)=true->(!sameInts (lay.getD x129 []) ((lockR f).getD x129 []))=false->(x129:Int) + 1=(↑(x129 + 1):Int))
  (o40:(fitsF f/\lay.length<=big /\ ∀ (i:Nat),(lay.getD i []).length<=big)->(bif !readyF f then true else decide (40 < (↑(lay.length):Int)))=false->(bif bif bif bif !(decide (stripsE f=0) || decide (stripsE f=3)) then true else !decide (stripsE f=0) == decide (stripsV f < 100000) then true else !(decide (refuseE f=0) || decide (refuseE f=3)) then true else !decide (refuseE f=0) == decide (lostV f < 100000) then true else bif decide (stripsE f=0) then bif bif bif !decide (lostV f=0) then true else decide (0 < (↑((refuseL f).length):Int)) then true else !layB f (lockR f) then true else !decide (manyL (lockR f)=stripsV f) else false)=false->(!layB f lay)=false->(bif !decide (stripsE f=0) then true else decide (manyL lay < stripsV f))=false -> ∀ (x129:Nat),(x129<=(lockR f).length /\ ∀ (j:Nat),j < x129->lay.getD j []=(lockR f).getD j [])->(bif decide ((x129:Int) < (↑((lockR f).length):Int)) then decide (manyL lay=stripsV f) else false)=true->(!sameInts (lay.getD x129 []) ((lockR f).getD x129 []))=false->x129 + 1<=(lockR f).length /\ ∀ (j:Nat),j < x129 + 1->lay.getD j []=(lockR f).getD j [])
  (o41:(fitsF f/\lay.length<=big /\ ∀ (i:Nat),(lay.getD i []).length<=big)->(bif !readyF f then true else decide (40 < (↑(lay.length):Int)))=false->(bif bif bif bif !(decide (stripsE f=0) || decide (stripsE f=3)) then true else !decide (stripsE f=0) == decide (stripsV f < 100000) then true else !(decide (refuseE f=0) || decide (refuseE f=3)) then true else !decide (refuseE f=0) == decide (lostV f < 100000) then true else bif decide (stripsE f=0) then bif bif bif !decide (lostV f=0) then true else decide (0 < (↑((refuseL f).length):Int)) then true else !layB f (lockR f) then true else !decide (manyL (lockR f)=stripsV f) else false)=false->(!layB f lay)=false->(bif !decide (stripsE f=0) then true else decide (manyL lay < stripsV f))=false -> ∀ (x129:Nat),(x129<=(lockR f).length /\ ∀ (j:Nat),j < x129->lay.getD j []=(lockR f).getD j [])->(bif decide ((x129:Int) < (↑((lockR f).length):Int)) then decide (manyL lay=stripsV f) else false)=true->(!sameInts (lay.getD x129 []) ((lockR f).getD x129 []))=false->(lockR f).length - (x129 + 1) < (lockR f).length - x129) :
  Triple Try.prog 16 (s16 f lay):=by
 refine triple_of Try.func16 rfl Try.call16 T0_ok _ rfl rfl rfl rfl (Nat.le_of_ble_eq_true (by kernel_rfl)) (fun _ _ _ _ h=>h) ?_
 intro hpre C hC _ hE
 obtain ⟨P,w0,E0,av,hA,ro,df⟩:=C
 obtain ⟨rfl,rfl,rfl⟩:=hC
 refine swp_seq ?_
 refine zR [1,2] [0] (Ak 2 tv) ?_
 refine swp_seq ?_
 refine swp_seq ?_
 refine zC ([(1,CallSpec.eq (s18 f) [true])]) [1,2,22] [0] (Ak 1 (An (An (An (zr (AV.agg (cFrm f))) tv) (An (t18 (f)) (An hpre.1 (Ak 1 (fun (i0:Env)=>tv))))) (Ak 2 (An (fun (y1:(!!readyF f)=true)=>(An (Ak 1 tv) tv)) (An (fun (y2:(!!readyF f)=true)=>(An (An (fun (y3:(!!readyF f)=true)=>y2) tv) tv)) (An (fun (y4:(!!readyF f)=true)=>(An (An (fun (y5:(!!readyF f)=true)=>y4) (Ak 1 tv)) tv)) (An (An (fun (y6:(!readyF f)=true)=>tv) (fun (y7:(!readyF f)=false)=>(o0 hpre y7))) tv))))))) ?_
 refine zI (bif !readyF f then true else decide (40 < (↑(lay.length):Int))) (fun y8 => ?_) (fun y8 => ?_)
 ·refine swp_seq ?_
  refine zC ([(0,CallSpec.eq s20 [])]) [4] [] (An (Ak 1 (An (t20) (Ak 2 (fun (i9:Env)=>tv)))) (Ak 1 tv)) ?_
  refine swp_ret ?_
  exact zT [] (An (Ak 1 tv) (An (An (zr (bv true)) (zr nilN)) (An (zr true) (An (zr true) (zr true)))))
 ·refine swp_skip ?_
  refine swp_seq ?_
  refine zC ([(1,CallSpec.eq (s27 f) [true])]) [1,2,5,6] [0] (Ak 1 (An (An (An (zr (AV.agg (cFrm f))) tv) (An (t27 (f)) (An (o1 hpre y8) (Ak 1 (fun (i10:Env)=>tv))))) (Ak 5 tv))) ?_
  refine swp_seq ?_
  refine zC ([(1,CallSpec.eq (s50 f) [true])]) [1,2,5,6,7,8] [0] (Ak 1 (An (An (An (zr (AV.agg (cFrm f))) tv) (An (t50 (f)) (An (o2 hpre y8) (Ak 1 (fun (i11:Env)=>tv))))) (Ak 5 tv))) ?_
  refine swp_seq ?_
  refine zC ([(1,CallSpec.eq (s60 f) [true])]) [1,2,5,6,7,8,9,10] [0] (Ak 1 (An (An (An (zr (AV.agg (cFrm f))) tv) (An (t60 (f)) (An (o3 hpre y8) (Ak 1 (fun (i12:Env)=>tv))))) (Ak 5 tv))) ?_
  refine swp_seq ?_
  refine zC ([(1,CallSpec.eq (s42 f) [true])]) [1,2,5,6,7,8,9,10,11,12] [0] (Ak 1 (An (An (An (zr (AV.agg (cFrm f))) tv) (An (t42 (f)) (An (o4 hpre y8) (Ak 1 (fun (i13:Env)=>tv))))) (Ak 5 tv))) ?_
  refine swp_seq ?_
  refine swp_seq ?_
  refine zC ([(8,CallSpec.eq (s24 (stripsE f)) [true]),(20,CallSpec.eq (s24 (refuseE f)) [true]),(44,CallSpec.eq (s76 f (lockR f)) [true,false]),(49,CallSpec.eq (s61 (lockR f)) [false])]) [1,2,5,9,10,98] [0] (Ak 3 (An (fun (y14:(!false)=true)=>(An (Ak 1 tv) tv)) (An (fun (y15:(!false)=true)=>(An (An (fun (y16:(!false)=true)=>(zr true)) tv) tv)) (An (An (fun (y17:false=true)=>tv) (fun (y18:false=false)=>(zr true))) (Ak 1 (An (fun (y19:(!false)=true)=>(An (Ak 1 tv) tv)) (An (fun (y20:(!false)=true)=>(An (Ak 1 (An (fun (y21:(!false)=true)=>(zr true)) tv)) (An (An (zr (iv (stripsE f))) tv) (An (t24 (stripsE f)) (Ak 2 (fun (i22:Env)=>tv)))))) (An (fun (y23:(!false)=true)=>(An (An (fun (y24:(!false)=true)=>(zr true)) tv) tv)) (An (An (fun (y25:false=true)=>tv) (fun (y26:false=false)=>(zr true))) (Ak 1 (An (fun (y27:(!!(decide (stripsE f=0) || decide (stripsE f=3)))=true)=>(An (Ak 1 tv) tv)) (An (fun (y28:(!!(decide (stripsE f=0) || decide (stripsE f=3)))=true)=>(An (An (fun (y29:(!!(decide (stripsE f=0) || decide (stripsE f=3)))=true)=>y28) (Ak 1 tv)) tv)) (An (fun (y30:(!!(decide (stripsE f=0) || decide (stripsE f=3)))=true)=>(An (Ak 1 tv) tv)) (An (fun (y31:(!!(decide (stripsE f=0) || decide (stripsE f=3)))=true)=>(An (An (fun (y32:(!!(decide (stripsE f=0) || decide (stripsE f=3)))=true)=>y31) (Ak 1 tv)) tv)) (An (fun (y33:(!!(decide (stripsE f=0) || decide (stripsE f=3)))=true)=>(An (An (fun (y34:(!!(decide (stripsE f=0) || decide (stripsE f=3)))=true)=>y33) (An (fun (y35:(!!(decide (stripsE f=0) || decide (stripsE f=3)))=true)=>y33) tv)) tv)) (An (An (fun (y36:(!(decide (stripsE f=0) || decide (stripsE f=3)))=true)=>tv) (fun (y37:(!(decide (stripsE f=0) || decide (stripsE f=3)))=false)=>(o5 hpre y8 y37))) (Ak 1 (An (fun (y38:(!bif !(decide (stripsE f=0) || decide (stripsE f=3)) then true else !decide (stripsE f=0) == decide (stripsV f < 100000))=true)=>(An (Ak 1 tv) tv)) (An (fun (y39:(!bif !(decide (stripsE f=0) || decide (stripsE f=3)) then true else !decide (stripsE f=0) == decide (stripsV f < 100000))=true)=>(An (Ak 1 (An (fun (y40:(!bif !(decide (stripsE f=0) || decide (stripsE f=3)) then true else !decide (stripsE f=0) == decide (stripsV f < 100000))=true)=>y39) tv)) (An (An (zr (iv (refuseE f))) tv) (An (t24 (refuseE f)) (Ak 2 (fun (i41:Env)=>tv)))))) (An (fun (y42:(!bif !(decide (stripsE f=0) || decide (stripsE f=3)) then true else !decide (stripsE f=0) == decide (stripsV f < 100000))=true)=>(An (An (fun (y43:(!bif !(decide (stripsE f=0) || decide (stripsE f=3)) then true else !decide (stripsE f=0) == decide (stripsV f < 100000))=true)=>y42) tv) tv)) (An (An (fun (y44:(bif !(decide (stripsE f=0) || decide (stripsE f=3)) then true else !decide (stripsE f=0) == decide (stripsV f < 100000))=true)=>tv) (fun (y45:(bif !(decide (stripsE f=0) || decide (stripsE f=3)) then true else !decide (stripsE f=0) == decide (stripsV f < 100000))=false)=>(o6 hpre y8 y45))) (Ak 1 (An (fun (y46:(!bif bif !(decide (stripsE f=0) || decide (stripsE f=3)) then true else !decide (stripsE f=0) == decide (stripsV f < 100000) then true else !(decide (refuseE f=0) || decide (refuseE f=3)))=true)=>(An (Ak 1 tv) tv)) (An (fun (y47:(!bif bif !(decide (stripsE f=0) || decide (stripsE f=3)) then true else !decide (stripsE f=0) == decide (stripsV f < 100000) then true else !(decide (refuseE f=0) || decide (refuseE f=3)))=true)=>(An (An (fun (y48:(!bif bif !(decide (stripsE f=0) || decide (stripsE f=3)) then true else !decide (stripsE f=0) == decide (stripsV f < 100000) then true else !(decide (refuseE f=0) || decide (refuseE f=3)))=true)=>y47) (Ak 1 tv)) tv)) (An (fun (y49:(!bif bif !(decide (stripsE f=0) || decide (stripsE f=3)) then true else !decide (stripsE f=0) == decide (stripsV f < 100000) then true else !(decide (refuseE f=0) || decide (refuseE f=3)))=true)=>(An (Ak 1 tv) tv)) (An (fun (y50:(!bif bif !(decide (stripsE f=0) || decide (stripsE f=3)) then true else !decide (stripsE f=0) == decide (stripsV f < 100000) then true else !(decide (refuseE f=0) || decide (refuseE f=3)))=true)=>(An (An (fun (y51:(!bif bif !(decide (stripsE f=0) || decide (stripsE f=3)) then true else !decide (stripsE f=0) == decide (stripsV f < 100000) then true else !(decide (refuseE f=0) || decide (refuseE f=3)))=true)=>y50) (Ak 1 tv)) tv)) (An (fun (y52:(!bif bif !(decide (stripsE f=0) || decide (stripsE f=3)) then true else !decide (stripsE f=0) == decide (stripsV f < 100000) then true else !(decide (refuseE f=0) || decide (refuseE f=3)))=true)=>(An (An (fun (y53:(!bif bif !(decide (stripsE f=0) || decide (stripsE f=3)) then true else !decide (stripsE f=0) == decide (stripsV f < 100000) then true else !(decide (refuseE f=0) || decide (refuseE f=3)))=true)=>y52) (An (fun (y54:(!bif bif !(decide (stripsE f=0) || decide (stripsE f=3)) then true else !decide (stripsE f=0) == decide (stripsV f < 100000) then true else !(decide (refuseE f=0) || decide (refuseE f=3)))=true)=>y52) tv)) tv)) (An (An (fun (y55:(bif bif !(decide (stripsE f=0) || decide (stripsE f=3)) then true else !decide (stripsE f=0) == decide (stripsV f < 100000) then true else !(decide (refuseE f=0) || decide (refuseE f=3)))=true)=>tv) (fun (y56:(bif bif !(decide (stripsE f=0) || decide (stripsE f=3)) then true else !decide (stripsE f=0) == decide (stripsV f < 100000) then true else !(decide (refuseE f=0) || decide (refuseE f=3)))=false)=>(o7 hpre y8 y56))) (Ak 1 (An (fun (y57:(!bif bif bif !(decide (stripsE f=0) || decide (stripsE f=3)) then true else !decide (stripsE f=0) == decide (stripsV f < 100000) then true else !(decide (refuseE f=0) || decide (refuseE f=3)) then true else !decide (refuseE f=0) == decide (lostV f < 100000))=true)=>(An (Ak 1 tv) tv)) (An (fun (y58:(!bif bif bif !(decide (stripsE f=0) || decide (stripsE f=3)) then true else !decide (stripsE f=0) == decide (stripsV f < 100000) then true else !(decide (refuseE f=0) || decide (refuseE f=3)) then true else !decide (refuseE f=0) == decide (lostV f < 100000))=true)=>(An (An (fun (y59:(!bif bif bif !(decide (stripsE f=0) || decide (stripsE f=3)) then true else !decide (stripsE f=0) == decide (stripsV f < 100000) then true else !(decide (refuseE f=0) || decide (refuseE f=3)) then true else !decide (refuseE f=0) == decide (lostV f < 100000))=true)=>y58) (Ak 1 tv)) tv)) (An (fun (y60:(!bif bif bif !(decide (stripsE f=0) || decide (stripsE f=3)) then true else !decide (stripsE f=0) == decide (stripsV f < 100000) then true else !(decide (refuseE f=0) || decide (refuseE f=3)) then true else !decide (refuseE f=0) == decide (lostV f < 100000))=true)=>(An (An (fun (y61:(!bif bif bif !(decide (stripsE f=0) || decide (stripsE f=3)) then true else !decide (stripsE f=0) == decide (stripsV f < 100000) then true else !(decide (refuseE f=0) || decide (refuseE f=3)) then true else !decide (refuseE f=0) == decide (lostV f < 100000))=true)=>y60) tv) tv)) (An (fun (y62:((!bif bif bif !(decide (stripsE f=0) || decide (stripsE f=3)) then true else !decide (stripsE f=0) == decide (stripsV f < 100000) then true else !(decide (refuseE f=0) || decide (refuseE f=3)) then true else !decide (refuseE f=0) == decide (lostV f < 100000)) && decide (stripsE f=0))=true)=>(An (Ak 1 tv) tv)) (An (fun (y63:((!bif bif bif !(decide (stripsE f=0) || decide (stripsE f=3)) then true else !decide (stripsE f=0) == decide (stripsV f < 100000) then true else !(decide (refuseE f=0) || decide (refuseE f=3)) then true else !decide (refuseE f=0) == decide (lostV f < 100000)) && decide (stripsE f=0))=true)=>(An (An (fun (y64:((!bif bif bif !(decide (stripsE f=0) || decide (stripsE f=3)) then true else !decide (stripsE f=0) == decide (stripsV f < 100000) then true else !(decide (refuseE f=0) || decide (refuseE f=3)) then true else !decide (refuseE f=0) == decide (lostV f < 100000)) && decide (stripsE f=0))=true)=>y63) (Ak 1 tv)) tv)) (An (fun (y65:((!bif bif bif !(decide (stripsE f=0) || decide (stripsE f=3)) then true else !decide (stripsE f=0) == decide (stripsV f < 100000) then true else !(decide (refuseE f=0) || decide (refuseE f=3)) then true else !decide (refuseE f=0) == decide (lostV f < 100000)) && decide (stripsE f=0))=true)=>(An (An (fun (y66:((!bif bif bif !(decide (stripsE f=0) || decide (stripsE f=3)) then true else !decide (stripsE f=0) == decide (stripsV f < 100000) then true else !(decide (refuseE f=0) || decide (refuseE f=3)) then true else !decide (refuseE f=0) == decide (lostV f < 100000)) && decide (stripsE f=0))=true)=>y65) tv) tv)) (An (fun (y67:((!bif bif bif !(decide (stripsE f=0) || decide (stripsE f=3)) then true else !decide (stripsE f=0) == decide (stripsV f < 100000) then true else !(decide (refuseE f=0) || decide (refuseE f=3)) then true else !decide (refuseE f=0) == decide (lostV f < 100000)) && decide (stripsE f=0) && !!decide (lostV f=0))=true)=>(An (Ak 1 tv) tv)) (An (fun (y68:((!bif bif bif !(decide (stripsE f=0) || decide (stripsE f=3)) then true else !decide (stripsE f=0) == decide (stripsV f < 100000) then true else !(decide (refuseE f=0) || decide (refuseE f=3)) then true else !decide (refuseE f=0) == decide (lostV f < 100000)) && decide (stripsE f=0) && !!decide (lostV f=0))=true)=>(An (An (fun (y69:((!bif bif bif !(decide (stripsE f=0) || decide (stripsE f=3)) then true else !decide (stripsE f=0) == decide (stripsV f < 100000) then true else !(decide (refuseE f=0) || decide (refuseE f=3)) then true else !decide (refuseE f=0) == decide (lostV f < 100000)) && decide (stripsE f=0) && !!decide (lostV f=0))=true)=>y68) tv) tv)) (An (fun (y70:((!bif bif bif !(decide (stripsE f=0) || decide (stripsE f=3)) then true else !decide (stripsE f=0) == decide (stripsV f < 100000) then true else !(decide (refuseE f=0) || decide (refuseE f=3)) then true else !decide (refuseE f=0) == decide (lostV f < 100000)) && decide (stripsE f=0) && !!decide (lostV f=0))=true)=>(An (An (fun (y71:((!bif bif bif !(decide (stripsE f=0) || decide (stripsE f=3)) then true else !decide (stripsE f=0) == decide (stripsV f < 100000) then true else !(decide (refuseE f=0) || decide (refuseE f=3)) then true else !decide (refuseE f=0) == decide (lostV f < 100000)) && decide (stripsE f=0) && !!decide (lostV f=0))=true)=>y70) (Ak 1 tv)) tv)) (An (fun (y72:((!bif bif bif !(decide (stripsE f=0) || decide (stripsE f=3)) then true else !decide (stripsE f=0) == decide (stripsV f < 100000) then true else !(decide (refuseE f=0) || decide (refuseE f=3)) then true else !decide (refuseE f=0) == decide (lostV f < 100000)) && decide (stripsE f=0))=true)=>(An (An (fun (y73:((!bif bif bif !(decide (stripsE f=0) || decide (stripsE f=3)) then true else !decide (stripsE f=0) == decide (stripsV f < 100000) then true else !(decide (refuseE f=0) || decide (refuseE f=3)) then true else !decide (refuseE f=0) == decide (lostV f < 100000)) && decide (stripsE f=0))=true)=>y72) tv) (An (fun (y74:(!decide (lostV f=0))=true)=>tv) (fun (y75:(!decide (lostV f=0))=false)=>(o8 hpre y8 y72 y75))))) (An (fun (y76:((!bif bif bif !(decide (stripsE f=0) || decide (stripsE f=3)) then true else !decide (stripsE f=0) == decide (stripsV f < 100000) then true else !(decide (refuseE f=0) || decide (refuseE f=3)) then true else !decide (refuseE f=0) == decide (lostV f < 100000)) && decide (stripsE f=0))=true)=>(An (An (fun (y77:((!bif bif bif !(decide (stripsE f=0) || decide (stripsE f=3)) then true else !decide (stripsE f=0) == decide (stripsV f < 100000) then true else !(decide (refuseE f=0) || decide (refuseE f=3)) then true else !decide (refuseE f=0) == decide (lostV f < 100000)) && decide (stripsE f=0))=true)=>y76) tv) tv)) (An (fun (y78:((!bif bif bif !(decide (stripsE f=0) || decide (stripsE f=3)) then true else !decide (stripsE f=0) == decide (stripsV f < 100000) then true else !(decide (refuseE f=0) || decide (refuseE f=3)) then true else !decide (refuseE f=0) == decide (lostV f < 100000)) && decide (stripsE f=0) && !bif !decide (lostV f=0) then true else decide (0 < (↑((refuseL f).length):Int)))=true)=>(An (Ak 1 tv) tv)) (An (fun (y79:((!bif bif bif !(decide (stripsE f=0) || decide (stripsE f=3)) then true else !decide (stripsE f=0) == decide (stripsV f < 100000) then true else !(decide (refuseE f=0) || decide (refuseE f=3)) then true else !decide (refuseE f=0) == decide (lostV f < 100000)) && decide (stripsE f=0) && !bif !decide (lostV f=0) then true else decide (0 < (↑((refuseL f).length):Int)))=true)=>(An (Ak 1 tv) tv)) (An (fun (y80:((!bif bif bif !(decide (stripsE f=0) || decide (stripsE f=3)) then true else !decide (stripsE f=0) == decide (stripsV f < 100000) then true else !(decide (refuseE f=0) || decide (refuseE f=3)) then true else !decide (refuseE f=0) == decide (lostV f < 100000)) && decide (stripsE f=0) && !bif !decide (lostV f=0) then true else decide (0 < (↑((refuseL f).length):Int)))=true)=>(An (Ak 1 (An (fun (y81:((!bif bif bif !(decide (stripsE f=0) || decide (stripsE f=3)) then true else !decide (stripsE f=0) == decide (stripsV f < 100000) then true else !(decide (refuseE f=0) || decide (refuseE f=3)) then true else !decide (refuseE f=0) == decide (lostV f < 100000)) && decide (stripsE f=0) && !bif !decide (lostV f=0) then true else decide (0 < (↑((refuseL f).length):Int)))=true)=>y80) (An (fun (y82:((!bif bif bif !(decide (stripsE f=0) || decide (stripsE f=3)) then true else !decide (stripsE f=0) == decide (stripsV f < 100000) then true else !(decide (refuseE f=0) || decide (refuseE f=3)) then true else !decide (refuseE f=0) == decide (lostV f < 100000)) && decide (stripsE f=0) && !bif !decide (lostV f=0) then true else decide (0 < (↑((refuseL f).length):Int)))=true)=>y80) tv))) (An (An (zr (AV.agg (cFrm f))) (An (An (zr 1) (An (zr (lockR f).length) (fun (i83:Nat)=>(fun (y84:i83 < (lockR f).length)=>(zr ([aInts ((lockR f).getD i83 [])])))))) tv)) (An (t76 (f) (lockR f)) (An (An (o9 hpre y8 y80) (An (o10 hpre y8 y80) (fun (i85:Nat)=>(o11 hpre y8 y80 i85)))) (Ak 1 (fun (i86:Env)=>tv))))))) (An (fun (y87:((!bif bif bif !(decide (stripsE f=0) || decide (stripsE f=3)) then true else !decide (stripsE f=0) == decide (stripsV f < 100000) then true else !(decide (refuseE f=0) || decide (refuseE f=3)) then true else !decide (refuseE f=0) == decide (lostV f < 100000)) && decide (stripsE f=0) && !bif !decide (lostV f=0) then true else decide (0 < (↑((refuseL f).length):Int)))=true)=>(An (An (fun (y88:((!bif bif bif !(decide (stripsE f=0) || decide (stripsE f=3)) then true else !decide (stripsE f=0) == decide (stripsV f < 100000) then true else !(decide (refuseE f=0) || decide (refuseE f=3)) then true else !decide (refuseE f=0) == decide (lostV f < 100000)) && decide (stripsE f=0) && !bif !decide (lostV f=0) then true else decide (0 < (↑((refuseL f).length):Int)))=true)=>y87) tv) tv)) (An (fun (y89:((!bif bif bif !(decide (stripsE f=0) || decide (stripsE f=3)) then true else !decide (stripsE f=0) == decide (stripsV f < 100000) then true else !(decide (refuseE f=0) || decide (refuseE f=3)) then true else !decide (refuseE f=0) == decide (lostV f < 100000)) && decide (stripsE f=0))=true)=>(An (An (fun (y90:((!bif bif bif !(decide (stripsE f=0) || decide (stripsE f=3)) then true else !decide (stripsE f=0) == decide (stripsV f < 100000) then true else !(decide (refuseE f=0) || decide (refuseE f=3)) then true else !decide (refuseE f=0) == decide (lostV f < 100000)) && decide (stripsE f=0))=true)=>y89) tv) (An (fun (y91:(bif !decide (lostV f=0) then true else decide (0 < (↑((refuseL f).length):Int)))=true)=>tv) (fun (y92:(bif !decide (lostV f=0) then true else decide (0 < (↑((refuseL f).length):Int)))=false)=>(o12 hpre y8 y89 y92))))) (An (fun (y93:((!bif bif bif !(decide (stripsE f=0) || decide (stripsE f=3)) then true else !decide (stripsE f=0) == decide (stripsV f < 100000) then true else !(decide (refuseE f=0) || decide (refuseE f=3)) then true else !decide (refuseE f=0) == decide (lostV f < 100000)) && decide (stripsE f=0))=true)=>(An (An (fun (y94:((!bif bif bif !(decide (stripsE f=0) || decide (stripsE f=3)) then true else !decide (stripsE f=0) == decide (stripsV f < 100000) then true else !(decide (refuseE f=0) || decide (refuseE f=3)) then true else !decide (refuseE f=0) == decide (lostV f < 100000)) && decide (stripsE f=0))=true)=>y93) tv) tv)) (An (fun (y95:((!bif bif bif !(decide (stripsE f=0) || decide (stripsE f=3)) then true else !decide (stripsE f=0) == decide (stripsV f < 100000) then true else !(decide (refuseE f=0) || decide (refuseE f=3)) then true else !decide (refuseE f=0) == decide (lostV f < 100000)) && decide (stripsE f=0) && !bif bif !decide (lostV f=0) then true else decide (0 < (↑((refuseL f).length):Int)) then true else !layB f (lockR f))=true)=>(An (Ak 1 tv) tv)) (An (fun (y96:((!bif bif bif !(decide (stripsE f=0) || decide (stripsE f=3)) then true else !decide (stripsE f=0) == decide (stripsV f < 100000) then true else !(decide (refuseE f=0) || decide (refuseE f=3)) then true else !decide (refuseE f=0) == decide (lostV f < 100000)) && decide (stripsE f=0) && !bif bif !decide (lostV f=0) then true else decide (0 < (↑((refuseL f).length):Int)) then true else !layB f (lockR f))=true)=>(An (Ak 1 (An (fun (y97:((!bif bif bif !(decide (stripsE f=0) || decide (stripsE f=3)) then true else !decide (stripsE f=0) == decide (stripsV f < 100000) then true else !(decide (refuseE f=0) || decide (refuseE f=3)) then true else !decide (refuseE f=0) == decide (lostV f < 100000)) && decide (stripsE f=0) && !bif bif !decide (lostV f=0) then true else decide (0 < (↑((refuseL f).length):Int)) then true else !layB f (lockR f))=true)=>y96) tv)) (An (An (An (zr 1) (An (zr (lockR f).length) (fun (i98:Nat)=>(fun (y99:i98 < (lockR f).length)=>(zr ([aInts ((lockR f).getD i98 [])])))))) tv) (An (t61 (lockR f)) (An (o13 hpre y8 y96) (Ak 1 (fun (i100:Env)=>tv))))))) (An (fun (y101:((!bif bif bif !(decide (stripsE f=0) || decide (stripsE f=3)) then true else !decide (stripsE f=0) == decide (stripsV f < 100000) then true else !(decide (refuseE f=0) || decide (refuseE f=3)) then true else !decide (refuseE f=0) == decide (lostV f < 100000)) && decide (stripsE f=0) && !bif bif !decide (lostV f=0) then true else decide (0 < (↑((refuseL f).length):Int)) then true else !layB f (lockR f))=true)=>(An (Ak 1 tv) tv)) (An (fun (y102:((!bif bif bif !(decide (stripsE f=0) || decide (stripsE f=3)) then true else !decide (stripsE f=0) == decide (stripsV f < 100000) then true else !(decide (refuseE f=0) || decide (refuseE f=3)) then true else !decide (refuseE f=0) == decide (lostV f < 100000)) && decide (stripsE f=0) && !bif bif !decide (lostV f=0) then true else decide (0 < (↑((refuseL f).length):Int)) then true else !layB f (lockR f))=true)=>(An (An (fun (y103:((!bif bif bif !(decide (stripsE f=0) || decide (stripsE f=3)) then true else !decide (stripsE f=0) == decide (stripsV f < 100000) then true else !(decide (refuseE f=0) || decide (refuseE f=3)) then true else !decide (refuseE f=0) == decide (lostV f < 100000)) && decide (stripsE f=0) && !bif bif !decide (lostV f=0) then true else decide (0 < (↑((refuseL f).length):Int)) then true else !layB f (lockR f))=true)=>y102) (An (fun (y104:((!bif bif bif !(decide (stripsE f=0) || decide (stripsE f=3)) then true else !decide (stripsE f=0) == decide (stripsV f < 100000) then true else !(decide (refuseE f=0) || decide (refuseE f=3)) then true else !decide (refuseE f=0) == decide (lostV f < 100000)) && decide (stripsE f=0) && !bif bif !decide (lostV f=0) then true else decide (0 < (↑((refuseL f).length):Int)) then true else !layB f (lockR f))=true)=>y102) tv)) tv)) (An (fun (y105:((!bif bif bif !(decide (stripsE f=0) || decide (stripsE f=3)) then true else !decide (stripsE f=0) == decide (stripsV f < 100000) then true else !(decide (refuseE f=0) || decide (refuseE f=3)) then true else !decide (refuseE f=0) == decide (lostV f < 100000)) && decide (stripsE f=0))=true)=>(An (An (fun (y106:((!bif bif bif !(decide (stripsE f=0) || decide (stripsE f=3)) then true else !decide (stripsE f=0) == decide (stripsV f < 100000) then true else !(decide (refuseE f=0) || decide (refuseE f=3)) then true else !decide (refuseE f=0) == decide (lostV f < 100000)) && decide (stripsE f=0))=true)=>y105) tv) (An (fun (y107:(bif bif !decide (lostV f=0) then true else decide (0 < (↑((refuseL f).length):Int)) then true else !layB f (lockR f))=true)=>tv) (fun (y108:(bif bif !decide (lostV f=0) then true else decide (0 < (↑((refuseL f).length):Int)) then true else !layB f (lockR f))=false)=>(o14 hpre y8 y105 y108))))) (An (fun (y109:(!bif bif bif !(decide (stripsE f=0) || decide (stripsE f=3)) then true else !decide (stripsE f=0) == decide (stripsV f < 100000) then true else !(decide (refuseE f=0) || decide (refuseE f=3)) then true else !decide (refuseE f=0) == decide (lostV f < 100000))=true)=>(An (An (fun (y110:(!bif bif bif !(decide (stripsE f=0) || decide (stripsE f=3)) then true else !decide (stripsE f=0) == decide (stripsV f < 100000) then true else !(decide (refuseE f=0) || decide (refuseE f=3)) then true else !decide (refuseE f=0) == decide (lostV f < 100000))=true)=>y109) tv) (An (fun (y111:decide (stripsE f=0)=true)=>(o15 hpre y8 y109 y111)) (fun (y112:decide (stripsE f=0)=false)=>tv)))) (An (An (fun (y113:(bif bif bif !(decide (stripsE f=0) || decide (stripsE f=3)) then true else !decide (stripsE f=0) == decide (stripsV f < 100000) then true else !(decide (refuseE f=0) || decide (refuseE f=3)) then true else !decide (refuseE f=0) == decide (lostV f < 100000))=true)=>tv) (fun (y114:(bif bif bif !(decide (stripsE f=0) || decide (stripsE f=3)) then true else !decide (stripsE f=0) == decide (stripsV f < 100000) then true else !(decide (refuseE f=0) || decide (refuseE f=3)) then true else !decide (refuseE f=0) == decide (lostV f < 100000))=false)=>(o16 hpre y8 y114))) tv))))))))))))))))))))))))))))))))))))))))))))))))))))) ?_
  refine zI (bif bif bif bif !(decide (stripsE f=0) || decide (stripsE f=3)) then true else !decide (stripsE f=0) == decide (stripsV f < 100000) then true else !(decide (refuseE f=0) || decide (refuseE f=3)) then true else !decide (refuseE f=0) == decide (lostV f < 100000) then true else bif decide (stripsE f=0) then bif bif bif !decide (lostV f=0) then true else decide (0 < (↑((refuseL f).length):Int)) then true else !layB f (lockR f) then true else !decide (manyL (lockR f)=stripsV f) else false) (fun y115 => ?_) (fun y115 => ?_)
  ·refine swp_seq ?_
   refine zR [4] [] (Ak 1 tv) ?_
   refine swp_ret ?_
   exact zT [] (An (Ak 1 tv) (An (An (cb (o17 hpre y8 y115)) (zr nilN)) (An (zr true) (An (zr true) (zr true)))))
  ·refine swp_skip ?_
   refine swp_seq ?_
   refine swp_seq ?_
   refine zC ([(2,CallSpec.eq (s76 f lay) [true,true])]) [1,5,9,10,102] [] (Ak 2 (An (An (An (zr (AV.agg (cFrm f))) (An (zr (aIntss lay)) tv)) (An (t76 (f) (lay)) (An (An (o18 hpre y8 y115) (An (o19 hpre y8 y115) (fun (i116:Nat)=>(o20 hpre y8 y115 i116)))) (Ak 1 (fun (i117:Env)=>tv))))) (Ak 1 tv))) ?_
   refine zI (!layB f lay) (fun y118 => ?_) (fun y118 => ?_)
   ·refine swp_seq ?_
    refine zC ([(0,CallSpec.eq s20 [])]) [4] [] (An (Ak 1 (An (t20) (Ak 2 (fun (i119:Env)=>tv)))) (Ak 1 tv)) ?_
    refine swp_ret ?_
    exact zT [] (An (Ak 1 tv) (An (An (zr (bv true)) (zr nilN)) (An (zr true) (An (zr true) (zr true)))))
   ·refine swp_skip ?_
    refine swp_seq ?_
    refine zC ([(1,CallSpec.eq (s61 lay) [true])]) [1,5,9,10,13] [] (Ak 1 (An (An (An (zr (aIntss lay)) tv) (An (t61 (lay)) (An (o21 hpre y8 y115 y118) (Ak 1 (fun (i120:Env)=>tv))))) (Ak 1 tv))) ?_
    refine swp_seq ?_
    refine swp_seq ?_
    refine zR [1,5,9,13,112] [] (Ak 3 (An (fun (y121:(!!decide (stripsE f=0))=true)=>(An (Ak 1 tv) tv)) (An (fun (y122:(!!decide (stripsE f=0))=true)=>(An (Ak 1 tv) tv)) (An (fun (y123:(!!decide (stripsE f=0))=true)=>(An (An (fun (y124:(!!decide (stripsE f=0))=true)=>y123) (An (fun (y125:(!!decide (stripsE f=0))=true)=>y123) tv)) tv)) (An (An (fun (y126:(!decide (stripsE f=0))=true)=>tv) (fun (y127:(!decide (stripsE f=0))=false)=>(o22 hpre y8 y115 y118 y127))) tv))))) ?_
    refine zI (bif !decide (stripsE f=0) then true else decide (manyL lay < stripsV f)) (fun y128 => ?_) (fun y128 => ?_)
    ·refine swp_seq ?_
     refine zR [4] [] (Ak 1 tv) ?_
     refine swp_ret ?_
     exact zT [] (An (Ak 1 tv) (An (An (cb (o23 hpre y8 y115 y118 y128)) (zr nilN)) (An (zr true) (An (zr true) (zr true)))))
    ·refine swp_skip ?_
     refine swp_seq ?_
     refine swp_seq ?_
     refine zR [1,5,9,13,14] [] (Ak 1 tv) ?_
     refine swp_block ?_
     refine zL (Hint.ann (h16 f lay) [(1,aIntss lay),(5,iv (stripsV f)),(9,aIntss (lockR f)),(13,iv (manyL lay))] [] 10864) (zE hE [] [] [1,5,9,13] [] (An (An (An (zr (aIntss lay)) (zr true)) (An (An (zr (iv (stripsV f))) (zr true)) (An (An (zr (aIntss (lockR f))) (zr true)) (An (An (zr (iv (manyL lay))) (zr true)) (An (An (ci (o24 hpre y8 y115 y118 y128)) (zr nilN)) tv))))) (Ak 1 (An (zr true) (zr true))))) (o25 hpre y8 y115 y118 y128) (fun (x129:Nat) hx129 => ?_)
     refine swp_seq ?_
     refine swp_seq ?_
     refine zR [1,5,9,13,14,121] [] (Ak 5 (An (fun (y130:decide ((x129:Int) < (↑((lockR f).length):Int))=true)=>(An (Ak 1 tv) tv)) (An (fun (y131:decide ((x129:Int) < (↑((lockR f).length):Int))=true)=>(An (Ak 1 tv) tv)) (An (fun (y132:decide ((x129:Int) < (↑((lockR f).length):Int))=true)=>(An (An (fun (y133:decide ((x129:Int) < (↑((lockR f).length):Int))=true)=>y132) (An (fun (y134:decide ((x129:Int) < (↑((lockR f).length):Int))=true)=>y132) tv)) tv)) (An (An (fun (y135:decide ((x129:Int) < (↑((lockR f).length):Int))=true)=>y135) (fun (y136:decide ((x129:Int) < (↑((lockR f).length):Int))=false)=>tv)) tv))))) ?_
     refine zI (bif decide ((x129:Int) < (↑((lockR f).length):Int)) then decide (manyL lay=stripsV f) else false) (fun y137 => ?_) (fun y137 => ?_)
     ·refine swp_skip ?_
      refine swp_seq ?_
      refine swp_block ?_
      refine swp_seq ?_
      refine zC ([(8,CallSpec.eq (s40 (lay.getD x129 []) ((lockR f).getD x129 [])) [true,true])]) [1,5,9,13,14,133] [] (Ak 2 (An (An (o26 hpre y8 y115 y118 y128 x129 hx129 y137) (o27 hpre y8 y115 y118 y128 x129 hx129 y137)) (Ak 3 (An (An (o28 hpre y8 y115 y118 y128 x129 hx129 y137) (o29 hpre y8 y115 y118 y128 x129 hx129 y137)) (Ak 1 (An (An (An (zr (aInts (lay.getD x129 []))) (An (zr (aInts ((lockR f).getD x129 []))) tv)) (An (t40 (lay.getD x129 []) ((lockR f).getD x129 [])) (An (o30 hpre y8 y115 y118 y128 x129 hx129 y137) (Ak 1 (fun (i138:Env)=>tv))))) (Ak 1 tv))))))) ?_
      refine zI (!sameInts (lay.getD x129 []) ((lockR f).getD x129 [])) (fun y139 => ?_) (fun y139 => ?_)
      ·refine swp_seq ?_
       refine zC ([(8,CallSpec.eq (s54 (lay.getD x129 []) ((lockR f).getD x129 [])) [true,true]),(11,CallSpec.eq s20 [])]) [4] [] (Ak 2 (An (An (o31 hpre y8 y115 y118 y128 x129 hx129 y137 y139) (o32 hpre y8 y115 y118 y128 x129 hx129 y137 y139)) (Ak 3 (An (An (o33 hpre y8 y115 y118 y128 x129 hx129 y137 y139) (o34 hpre y8 y115 y118 y128 x129 hx129 y137 y139)) (Ak 1 (An (An (An (zr (aInts (lay.getD x129 []))) (An (zr (aInts ((lockR f).getD x129 []))) tv)) (An (t54 (lay.getD x129 []) ((lockR f).getD x129 [])) (An (An (o35 hpre y8 y115 y118 y128 x129 hx129 y137 y139) (o36 hpre y8 y115 y118 y128 x129 hx129 y137 y139)) (Ak 1 (fun (i140:Env)=>tv))))) (Ak 2 (An (fun (y141:(!earlier (lay.getD x129 []) ((lockR f).getD x129 []))=true)=>(An (Ak 1 tv) (Ak 1 (An (t20) (Ak 2 (fun (i142:Env)=>tv)))))) (An (An (fun (y143:(!earlier (lay.getD x129 []) ((lockR f).getD x129 []))=true)=>y143) (fun (y144:(!earlier (lay.getD x129 []) ((lockR f).getD x129 []))=false)=>tv)) (Ak 1 tv)))))))))) ?_
       refine swp_ret ?_
       exact zT [] (An (Ak 1 tv) (An (An (cb (o37 hpre y8 y115 y118 y128 x129 hx129 y137 y139)) (zr nilN)) (An (zr true) (An (zr true) (zr true)))))
      ·refine swp_skip ?_
       refine zR [1,5,9,13,14] [] (Ak 1 (An (o38 hpre y8 y115 y118 y128 x129 hx129 y137 y139) (Ak 1 tv))) ?_
       exact zn (zE hE [] [] [1,5,9,13] [] (An (An (An (zr (aIntss lay)) (zr true)) (An (An (zr (iv (stripsV f))) (zr true)) (An (An (zr (aIntss (lockR f))) (zr true)) (An (An (zr (iv (manyL lay))) (zr true)) (An (An (ci (o39 hpre y8 y115 y118 y128 x129 hx129 y137 y139)) (zr nilN)) tv))))) (Ak 1 (An (zr true) (zr true))))) (o40 hpre y8 y115 y118 y128 x129 hx129 y137 y139) (o41 hpre y8 y115 y118 y128 x129 hx129 y137 y139)
     ·refine swp_exit ?_
      refine swp_seq ?_
      refine zC ([(0,CallSpec.eq s20 [])]) [4] [] (An (Ak 1 (An (t20) (Ak 2 (fun (i145:Env)=>tv)))) (Ak 1 tv)) ?_
      refine swp_ret ?_
      exact zT [] (An (Ak 1 tv) (An (An (zr (bv true)) (zr nilN)) (An (zr true) (An (zr true) (zr true)))))
theorem best_facts {f:Frm} (h:okFrm f=true):(stripsE f=0/\decide (stripsV f < 100000)=true/\refuseE f=0/\decide (lostV f=0)=true/\decide (lostV f < 100000)=true/\decide (0 < ((refuseL f).length:Int))=false/\layB f (lockR f)=true/\decide (manyL (lockR f)=stripsV f)=true) ∨
  (stripsE f=3/\decide (stripsV f < 100000)=false/\(refuseE f=0/\decide (lostV f < 100000)=true ∨ refuseE f=3/\decide (lostV f < 100000)=false)):=by
 have hs:=sound_of h
 have hE:=stripsE_eq h
 have hR:=refuseE_eq h
 have hV:=strips_lt hs
 have hL:=lost_lt hs
 cases e:(wholeP f 0).isSome with
 | true =>
  left
  have hn:=ref_nil hs e
  have e0:stripsE f=0:=by rw [hE,e]; rfl
  obtain ⟨l1,l2⟩:=lockR_lay h e0
  have hl0:lostV f=0:=by unfold lostV; rw [hn]
  have hr0:refuseL f = []:=by unfold refuseL; rw [if_pos h,hn]; rfl
  refine ⟨e0,decide_eq_true (hV.2 e),by rw [hR,hn]; rfl,decide_eq_true hl0,decide_eq_true (by omega),by rw [hr0]; rfl,(layB_lay hs).2 l1,decide_eq_true ?_⟩
  rw [l2]
  unfold stripsN stripsV
  rw [if_pos h]
  cases e3:wholeP f 0 with
  | none=>rw [e3] at e; cases e
  | some x=>rfl
 | false =>
  right
  refine ⟨by rw [hE,e]; rfl,decide_eq_false (fun h=>(by rw [hV.1 h] at e; cases e)),?_⟩
  cases e2:(refP f).isSome with
  | true=>exact .inl ⟨by rw [hR,e2]; rfl,decide_eq_true (hL.2 e2)⟩
  | false=>exact .inr ⟨by rw [hR,e2]; rfl,decide_eq_false (fun h=>(by rw [hL.1 h] at e2; cases e2))⟩
theorem t16 (f:Frm) (lay:List (List Int)):Triple Try.prog 16 (s16 f lay):=by
 apply w16
 all_goals (rintro ⟨hp,hol,hoi⟩)
 all_goals (first | ((repeat intro _); rename_i h; rw [h]; rfl) | skip)
 all_goals (intro h; obtain ⟨h1,h2⟩:=nbor2z h; obtain ⟨g1,g2,g3⟩:=ready_ok h1; have hok:=lockR_ok f)
 all_goals (try (first | exact g1 | exact g3))
 all_goals (rcases best_facts g1 with ⟨a1,a2,a3,a4,a5,a6,a7,a8⟩ | ⟨a1,a2,⟨a3,a4⟩ | ⟨a3,a4⟩⟩)
 all_goals (first | (simp only [a1,a2,a3,a4,a5,a6,a7,a8,f00,f03,f30,f33,Bool.or_true,Bool.true_or,Bool.or_false,Bool.false_or,Bool.not_true,Bool.not_false,cond_true,cond_false,Bool.and_true,Bool.true_and,Bool.and_false,Bool.false_and,beq_self_eq_true,decide_true]) | (simp only [a1,a2,a3,a4,f00,f03,f30,f33,Bool.or_true,Bool.true_or,Bool.or_false,Bool.false_or,Bool.not_true,Bool.not_false,cond_true,cond_false,Bool.and_true,Bool.true_and,Bool.and_false,Bool.false_and,beq_self_eq_true,decide_true]) | skip)
 all_goals (repeat intro _)
 all_goals (try (first | exact g2 | contradiction | trivial | exact hoi _ | exact hok | (simp only [inI,big]; omega)))
 case o10.inl=>have:=hok.1; simp only [big]; omega
 case o11.inl=>have:=(hok.2 (by assumption)).1; simp only [big]; omega
 all_goals (have hlay:LayF f 0 lay:=(layB_lay g2).1 (nnot (by assumption)); have hokl:=okLay_of g2 hlay; have hbest:=best_law g1 hlay; have hll:=((layF_iff g2).1 hlay).1)
 all_goals (try exact hokl)
 all_goals (try (exact absurd hbest.1 (by rw [a1]; decide)))
 case o23.inl=>have h5:=of_decide_eq_true ‹decide (manyL lay < stripsV f)=true›; omega
 case o25.inl=>exact ⟨Nat.zero_le _,fun j hj=>absurd hj (Nat.not_lt_zero _)⟩
 all_goals (obtain ⟨hx1,hx2⟩ := ‹_<=(lockR f).length/\_›; have hcd := ‹(bif decide _ then decide _ else false)=true›)
 all_goals (rw [Bool.cond_false_right,Bool.and_eq_true] at hcd; obtain ⟨hc1,hc2⟩:=hcd; simp only [decide_eq_true_eq] at hc1 hc2)
 all_goals (have hlr:=(layB_iff.1 a7).1; have hcl:=g2.columns)
 case o36.inl=>have:=(hok.2 (by assumption)).1; simp only [big]; omega
 case o37.inl =>
  rename_i i _ _ hd
  have hne:lay.getD i [] ≠ (lockR f).getD i []:=by
   intro e
   rw [e,same_self] at hd; cases hd
  rcases hbest.2.2 hc2 with e | e
  ·exact absurd (by rw [e]) hne
  ·have:=first_diff e hx2 hne (by omega)
   rw [earlier_asym this]; rfl
 case o40.inl =>
  rename_i i _ _ hd
  have he:lay.getD i []=(lockR f).getD i []:=by
   have:=nnot hd
   unfold sameInts at this
   exact of_decide_eq_true this
  exact ⟨by omega,lt_succ_cases hx2 he⟩
 all_goals (first | omega | (simp only [inI]; omega))
end Go.Ab
namespace Go.Ab
open Go Go.RowKit
def Dec (P:Program) (t:TypeId) {α:Type} (c:α->List AV) (ok:α->Prop):Prop :=
 ∀ {H:Type} (enc:TypeId × Value->H) (w:World) (E:Env) (fuel:Nat) (cs:List Value) (d:DataW H) (ps:List MemPlace),
  (∀ b,E.M b=w.heap[b]?)->DataW.trod enc P w 0 (fun _=>true) true fuel t cs=some (d,ps)->(∀ n ∈ d.weights P t,n<=reachBytes) -> ∃ a,ok a /\ ∀ o,RelL E o (c a) cs
theorem mcell_of {E:Env} {w:World} (h:∀ b,E.M b=w.heap[b]?) {a:Addr} {v:Value} (hc:w.cell? a=some v):a.spot=none/\mcell E.M a.block a.off=some v:=by
 refine ⟨World.cell?_spot hc,?_⟩
 have hs:=World.cell?_spot hc
 unfold World.cell? at hc
 unfold mcell
 rw [h]
 split at hc
 ·rename_i c t fr e
  rw [hs] at hc
  rw [e]
  simpa using hc
 ·cases hc
theorem lit_wf {n:Int} (h:(Lit.int .i64 n).wf=true) : -9223372036854775808<=n/\n<=9223372036854775807:=by
 simpa [Lit.wf,IntKind.min,IntKind.max,IntKind.signed,IntKind.bits] using h
theorem dec_int {P:Program} {t:TypeId} (ht:P.underlying t=some (.int .i64)):Dec P t (fun n=>[iv n]) (fun n => -9223372036854775808<=n/\n<=9223372036854775807):=by
 intro H enc w E fuel cs d ps _ h _
 obtain ⟨n,rfl,_,hw⟩:=DataW.trod_int ht h
 exact ⟨n,lit_wf hw,fun o => .cons (.lit _) rfl .nil⟩
theorem weightsAll_mem {H:Type} {P:Program} {e:TypeId}:∀ {l:List (DataW H)} {d:DataW H},d ∈ l -> ∀ n ∈ d.weights P e,n ∈ DataW.weightsAll P e l:=by
 intro l
 induction l with
 | nil=>intro d h; cases h
 | cons x l ih =>
  intro d h n hn
  rw [DataW.weightsAll,List.mem_append]
  rcases List.mem_cons.1 h with rfl | h
  ·exact .inl hn
  ·exact .inr (ih h n hn)
theorem dec_slice {P:Program} {t e:TypeId} {α:Type} [Inhabited α] {c:α->List AV} {ok:α->Prop} (ht:P.underlying t=some (.slice e)) {sz:Nat} (hsz:P.cellsOf e=sz) (hpos:0 < sz) (hby:0 < P.bytesOf e) (he:Dec P e c ok) :
  Dec P t (fun l:List α=>[.sl sz l.length (fun i=>c (l.getD i default))]) (fun l=>l.length<=140737488355328 /\ ∀ a,a ∈ l->ok a):=by
 intro H enc w E fuel cs d ps hE h hw
 rcases Deep.open_slice ht h with ⟨rfl,hx⟩ | ⟨a,len,cap,m,n,D,Pl,rfl,hb,hl,hm,hmm,hx,hall⟩
 ·refine ⟨[],⟨Nat.zero_le _,fun a ha=>by cases ha⟩,fun o => ?_⟩
  exact .cons (.slN _ _) rfl .nil
 ·simp only [if_true] at hmm
  subst hmm
  rw [hsz] at hall
  obtain ⟨rfl,rfl⟩:=Prod.mk.inj hx
  have hwt:∀ i,i < len -> ∀ k ∈ (D i).weights P e,k<=reachBytes:=by
   intro i hi k hk
   refine hw k ?_
   rw [DataW.weights,ht]
   refine List.mem_cons_of_mem _ (List.mem_append_left _ (weightsAll_mem (d:=D i) ?_ k hk))
   exact List.mem_map.2 ⟨i,List.mem_range.2 hi,rfl⟩
  have hlen:len<=140737488355328:=by
   have h1:(((List.range len).map D).length + ((List.range (m - len)).map fun j=>D (len + j)).length) * P.bytesOf e<=reachBytes:=by
    refine hw _ ?_
    rw [DataW.weights,ht]
    exact List.mem_cons_self ..
   simp only [List.length_map,List.length_range] at h1
   have h2:len<=(len + (m - len)) * P.bytesOf e:=Nat.le_trans (Nat.le_add_right _ _) (Nat.le_mul_of_pos_right _ hby)
   have h3:=reachBytes_lt
   omega
  obtain ⟨g,hg⟩:=Deep.choose_lt (α:=List Value) (p:=fun i cs'=>w.cells? 0 (a.add (i * sz)) sz=some cs'/\DataW.trod enc P w 0 (fun _=>true) true n e cs'=some (D i,Pl i)) hall
  have hdec:∀ i,i < len -> ∃ x,ok x /\ ∀ o,RelL E o (c x) (g i):=fun i hi=>he enc w E n (g i) (D i) (Pl i) hE (hg i (by omega)).2 (hwt i hi)
  obtain ⟨A,hA⟩:=Deep.choose_lt (α:=α) (p:=fun i x=>ok x /\ ∀ o,RelL E o (c x) (g i)) hdec
  refine ⟨(List.range len).map A,⟨by simpa using hlen,fun x hx => ?_⟩,fun o => .cons ?_ rfl .nil⟩
  ·obtain ⟨i,hi,rfl⟩:=List.mem_map.1 hx
   exact (hA i (List.mem_range.1 hi)).1
  ·rw [List.length_map,List.length_range]
   have hcell:∀ i k,i < m->k < sz -> ∃ v,(g i)[k]? = some v/\w.cell? ((a.add (i * sz)).add k)=some v:=by
    intro i k hi hk
    obtain ⟨_,hl1,hl2⟩:=World.cells?_some (hg i hi).1
    have:=hl2 k hk
    obtain ⟨v,hv⟩:∃ v,(g i)[k]? = some v:=⟨_,List.getElem?_eq_getElem (by omega)⟩
    exact ⟨v,hv,by rw [this,hv]⟩
   by_cases h0:m=0
   ·subst h0
    obtain rfl:len=0:=by omega
    exact .slZ _ _ _
   ·obtain ⟨v,_,hv⟩:=hcell 0 0 (by omega) hpos
    have hsp:=(mcell_of hE hv).1
    obtain ⟨b,off,spot⟩:=a
    obtain rfl:spot=none:=by simpa [Addr.add] using hsp
    refine .slA sz len _ b off m g hl hm (fun i hi => ?_) (fun i k hi hk => ?_) (fun i hi => ?_)
    ·exact (World.cells?_some (hg i (by omega)).1).2.1
    ·obtain ⟨v,hv1,hv2⟩:=hcell i k (by omega) hk
     rw [hv1]
     have:=(mcell_of hE hv2).2
     rw [addr_add,addr_add] at this
     exact this
    ·have:((List.range len).map A).getD i default=A i:=by
      rw [List.getD_eq_getElem?_getD,List.getElem?_map,List.getElem?_range hi]; rfl
     rw [this]
     exact (hA i hi).2 false
def DecFs (P:Program) (off fin:Nat) (fs:List Field) {α:Type} (c:α->List AV) (ok:α->Prop):Prop :=
 ∀ {H:Type} (enc:TypeId × Value->H) (w:World) (E:Env) (n:Nat) (cs:List Value) (xs:List (DataW H × List MemPlace)),
  (∀ b,E.M b=w.heap[b]?)->cs.length=fin->xs.length=fs.length->(∀ (i:Nat) (f:Field),fs[i]? = some f->DataW.trod enc P w 0 (fun _=>true) true n f.type ((cs.drop f.offset).take (P.cellsOf f.type))=xs[i]?) →
  (∀ k ∈ DataW.weightsEach P (fs.map (·.type)) (xs.map (·.1)),k<=reachBytes) -> ∃ a,ok a /\ ∀ o,RelL E o (c a) (cs.drop off)
theorem decFs_nil {P:Program} {fin:Nat}:DecFs P fin fin [] (fun _:Unit=>[]) (fun _=>True):=by
 intro H enc w E n cs xs _ hl _ _ _
 refine ⟨(),trivial,fun o => ?_⟩
 rw [List.drop_of_length_le (by omega)]
 exact .nil
theorem decFs_cons {P:Program} {off mid fin:Nat} {f:Field} {fs:List Field} {α β:Type} {c1:α->List AV} {ok1:α->Prop} {c2:β->List AV} {ok2:β->Prop} {t:TypeId} (hft:f.type=t) (ho:f.offset=off) (hm:off + P.cellsOf t=mid)
  (h1:Dec P t c1 ok1) (h2:DecFs P mid fin fs c2 ok2):DecFs P off fin (f :: fs) (fun p:α × β=>c1 p.1 ++ c2 p.2) (fun p=>ok1 p.1/\ok2 p.2):=by
 intro H enc w E n cs xs hE hl hx hall hw
 subst hft; subst ho; subst hm
 cases xs with
 | nil=>simp at hx
 | cons x xs =>
  have h0:=hall 0 f rfl
  simp only [List.getElem?_cons_zero] at h0
  obtain ⟨a,ha,hra⟩:=h1 enc w E n _ x.1 x.2 hE h0 (fun k hk=>hw k (by
   simp only [List.map_cons,DataW.weightsEach]
   exact List.mem_append_left _ hk))
  obtain ⟨b,hb,hrb⟩:=h2 enc w E n cs xs hE hl (by simpa using hx) (fun i g hg=>by
   have:=hall (i + 1) g (by simpa using hg)
   simpa using this) (fun k hk=>hw k (by
   simp only [List.map_cons,DataW.weightsEach]
   exact List.mem_append_right _ hk))
  refine ⟨(a,b),⟨ha,hb⟩,fun o => ?_⟩
  have:=(hra o).append (hrb o)
  rw [← List.drop_drop,List.take_append_drop] at this
  exact this
theorem dec_struct {P:Program} {t:TypeId} {fs:Array Field} {sz:Nat} {α:Type} {c:α->List AV} {ok:α->Prop} (ht:P.underlying t=some (.struct fs)) (hsz:P.cellsOf t=sz) (h:DecFs P 0 sz fs.toList c ok):Dec P t c ok:=by
 intro H enc w E fuel cs d ps hE hd hw
 obtain ⟨xs,n,_,hx,hl,hxl,hall⟩:=DataW.trod_struct ht hd
 obtain ⟨rfl,rfl⟩:=Prod.mk.inj hx
 obtain ⟨a,ha,hr⟩:=h enc w E n cs xs hE (by omega) (by simpa using hxl) (fun i f hf=>hall i f (by simpa using hf)) (fun k hk=>hw k (by rw [DataW.weights,ht]; exact hk))
 exact ⟨a,ha,fun o=>by simpa using hr o⟩
theorem Dec.map {P:Program} {t:TypeId} {α β:Type} {c:α->List AV} {ok:α->Prop} {c':β->List AV} {ok':β->Prop} (h:Dec P t c ok) (g:α->β) (hc:∀ a,ok a->c' (g a)=c a) (hok:∀ a,ok a->ok' (g a)):Dec P t c' ok':=by
 intro H enc w E fuel cs d ps hE hd hw
 obtain ⟨a,ha,hr⟩:=h enc w E fuel cs d ps hE hd hw
 exact ⟨g a,hok a ha,fun o=>by rw [hc a ha]; exact hr o⟩
theorem Dec.arg {P:Program} {t:TypeId} {α:Type} {c:α->List AV} {ok:α->Prop} (h:Dec P t c ok) {H:Type} {enc:TypeId × Value->H} {w:World} {E:Env} (hE:∀ b,E.M b=w.heap[b]?) {v:Value} {d:DataW H} {ps:List MemPlace}
  (hd:DataW.Trod enc P w 0 (fun _=>true) true t v d ps) (hw:∀ n ∈ d.weights P t,n<=reachBytes):∃ a,ok a /\ ∀ o,RelL E o (c a) v.cells.toList:=by
 obtain ⟨fuel,hf⟩:=hd
 exact h enc w E fuel _ d ps hE hf hw
def envOf (w:World):Env:={ M:=fun b=>w.heap[b]?,blk:=fun _=>none,hdr:=fun _=>none,fns:=fun _ _=>False }
theorem heapOK_of (P:Program) (w:World):HeapOK (calleeCtx P (envOf w) w []) (envOf w) (Heap.of []) w where
 os:=rfl
 tape:=rfl
 output:=rfl
 size:=Nat.le_refl _
 pres:=fun _ _=>rfl
 mem:=fun _ _ h=>h
 le:=Env.le.refl _
 ext:=fun _ _ h => .inl h
 own:=fun id ob h=>by cases h
 sep:=fun i j k _ h=>absurd rfl h
theorem trodAll_below {H:Type} {enc:TypeId × Value->H} {P:Program} (hl:laidOutB P=true) {W W':World} (hb:Below W.heap.size W W'):∀ {ts:List TypeId} {vs:List Value} {ds:List (DataW H)} {ps:List MemPlace},
  (∀ t ∈ ts,P.readableRec t=true/\t < P.types.size)->DataW.TrodAll enc P W 0 (fun _=>true) true ts vs ds ps->(∀ x ∈ ps,x.block < W.heap.size) →
  DataW.TrodAll enc P W' 0 (fun b=>decide (b < W.heap.size)) true ts vs ds ps:=by
 intro ts
 induction ts with
 | nil =>
  intro vs ds ps _ h _
  obtain ⟨rfl,rfl,rfl⟩:=ChangeShapes.trodAll_nil h
  exact ChangeShapes.trodAll_mk0
 | cons t ts ih =>
  intro vs ds ps hr h hlt
  obtain ⟨v,vs',d,ds',p,q,rfl,rfl,rfl,hd,hrest⟩:=ChangeShapes.trodAll_cons h
  obtain ⟨h1,h2⟩:=hr t (List.mem_cons_self ..)
  exact ⟨p,q,Below.trod hl h1 h2 hd hb (fun x hx=>hlt x (List.mem_append_left _ hx)),ih (fun t ht=>hr t (List.mem_cons_of_mem _ ht)) hrest (fun x hx=>hlt x (List.mem_append_right _ hx)),rfl⟩
theorem law_contract {P:Program} (hl:laidOutB P=true) {f:FuncId} {fn:Func} {s:ChangeSpec} (hvars:s.vars = []) {tb:TypeId} (hres:fn.resultTypes = #[tb]) (htb:P.underlying tb=some .bool)
  (hread:∀ t ∈ fn.params.toList,P.readableRec t=true/\t < P.types.size)
  {H:Type} {enc:TypeId × Value->H} {W:World} {args:Array Value} {ds gs:List (DataW H)} {before:List MemPlace}
  (hfn:ds.length=fn.params.size->s.fn H ds = { results:=[.lit (.bool true)],args:=ds })
  (hW:DataW.Whole enc P fn.params.toList s.vars false W args.toList ds gs before) {sp:CallSpec} (ht:Triple P f sp) (hp:sp.pre) (hfo:∀ E,sp.fnok E) (hin:sp.hin = []) (hout:sp.hout = []) (hr:sp.res=bv true)
  (hla:args.toList.length=sp.args.length) (hra:∀ k,Rel (envOf W) true (sp.args.getD k .any) (args.toList.getD k undef)) :
  Calls P f args W fun e W' => ∃ v,e = .returned v/\s.post enc P fn false true false false W args v W':=by
 have hok:=heapOK_of P W
 have h:=ht.2 hp (envOf W) W args.toList (hfo _) (by rw [hin]; exact hok) hla hra
 refine (h (by rw [hout]; intro p hp; cases hp)).mono fun e W' hpost => ?_
 obtain ⟨v,E',he,hh,hv,_⟩:=hpost
 rw [hr] at hv
 have hvt:v = .bool true:=by cases hv; rfl
 subst hvt
 have hb:Below W.heap.size W W':=⟨hh.os,hh.tape,hh.output,hh.size,fun k hk=>hh.pres k (by
  rintro (hc | ⟨q,hq,_⟩)
  ·exact absurd hk (Nat.not_lt.2 hc)
  ·rw [hin] at hq; cases hq)⟩
 refine ⟨_,he,?_⟩
 have hW':=hW
 obtain ⟨p,q,hA,hV,rfl,hz,hnd⟩:=hW
 rw [hvars] at hV
 obtain ⟨rfl,rfl⟩:=ChangeShapes.trodVars_none hV
 have hlen:ds.length=fn.params.size:=by
  have:∀ {ts:List TypeId} {vs:List Value} {ds:List (DataW H)} {ps:List MemPlace},DataW.TrodAll enc P W 0 (fun _=>true) true ts vs ds ps->ds.length=ts.length:=by
   intro ts
   induction ts with
   | nil=>intro vs ds ps h; obtain ⟨_,rfl,_⟩:=ChangeShapes.trodAll_nil h; rfl
   | cons t ts ih=>intro vs ds ps h; obtain ⟨_,_,_,_,_,_,rfl,rfl,rfl,_,hr⟩:=ChangeShapes.trodAll_cons h; simp [ih hr]
  simpa using this hA
 refine ⟨ds,[],p ++ [],[],p,[],hW',?_,?_,?_,hb.frame _,fun h=>by cases h⟩
 ·rw [List.append_nil,hfn hlen,hres]
  exact ChangeShapes.trodAll_mk1 (shut_bool htb true)
 ·rw [List.append_nil,hfn hlen]
  exact trodAll_below hl hb hread hA (fun x hx=>hW'.lt x (List.mem_append_left _ hx))
 ·rw [List.append_nil,hfn hlen,hvars]
  rfl
end Go.Ab
namespace Go.Ab
open Go Go.RowKit Go.Proofs Go.Sh Go.En
theorem dInt:Dec Try.prog 3 (fun n=>[iv n]) (fun n => -9223372036854775808<=n/\n<=9223372036854775807):=dec_int Try.underlying3
theorem dInts:Dec Try.prog 27 (fun l:List Int=>[aInts l]) (fun l=>l.length<=140737488355328) :=
 Dec.map (dec_slice (α:=Int) Try.underlying27 (by kernel_rfl) (by decide) (Nat.lt_of_lt_of_eq (by decide:0 < 8) (by kernel_rfl)) dInt) id (fun _ _=>rfl) (fun _ h=>h.1)
set_option maxRecDepth 100000
theorem laidOut:laidOutB Try.prog=true:=by kernel_rfl
section
variable {H:Type} {enc:TypeId × Value->H} {W:World} {base:Nat} {v:Value} {d:DataW H} {ps:List MemPlace}
theorem arg_struct {t:TypeId} {fs:Array Field} {α:Type} {c:α->List AV} {ok:α->Prop} (ht:Try.prog.underlying t=some (.struct fs)) (hD:Dec Try.prog t c ok) (hval:Value.okWide Try.prog W .any base t v) (hd:DataW.Trod enc Try.prog W 0 (fun _=>true) true t v d ps) (hw:∀ n ∈ d.weights Try.prog t,n<=reachBytes) :
  ∃ a,ok a/\Rel (envOf W) true (.agg (c a)) v:=by
 unfold Value.okWide at hval
 rw [ht] at hval
 obtain ⟨cs,rfl,_⟩:=hval
 obtain ⟨a,ha,hr⟩:=hD.arg (E:=envOf W) (fun _=>rfl) hd hw
 refine ⟨a,ha,?_⟩
 have h:=Rel.agg (hr true)
 simpa [Value.cells] using h
end
theorem weights_part {H:Type} {ts:List TypeId} {ds:List (DataW H)} (h:(DataW.weightsEach Try.prog ts ds).all (· <= reachBytes)=true) {j:Nat} {t:TypeId} {d:DataW H} (ht:ts[j]? = some t) (hd:ds[j]? = some d):∀ n ∈ d.weights Try.prog t,n<=reachBytes:=by
 intro n hn
 have:=List.all_eq_true.1 h _ (DataW.weights_mem_each ht hd n hn)
 simpa using this
def ArgD (t:TypeId) (α:Type) (c:α->AV) (ok:α->Prop):Prop :=
 (Try.prog.readableRec t=true/\t < Try.prog.types.size) /\ ∀ {H:Type} {enc:TypeId × Value->H} {W:World} {base:Nat} {v:Value} {d:DataW H} {ps:List MemPlace},Value.okWide Try.prog W .any base t v->DataW.Trod enc Try.prog W 0 (fun _=>true) true t v d ps->(∀ n ∈ d.weights Try.prog t,n<=reachBytes) -> ∃ a,ok a/\Rel (envOf W) true (c a) v
abbrev i64 (n:Int):Prop := -9223372036854775808<=n/\n<=9223372036854775807
theorem argStruct {t:TypeId} {fs:Array Field} {α:Type} {c:α->List AV} {ok:α->Prop} (ht:Try.prog.underlying t=some (.struct fs)) (hr:Try.prog.readableRec t=true/\t < Try.prog.types.size) (hD:Dec Try.prog t c ok):ArgD t α (fun a => .agg (c a)) ok:=⟨hr,fun hv hd hw=>arg_struct ht hD hv hd hw⟩
theorem law_two {f:FuncId} {fn:Func} {s:ChangeSpec} {t1 t2:TypeId} {α β:Type} {c1:α->AV} {c2:β->AV} {ok1:α->Prop} {ok2:β->Prop} (h1:ArgD t1 α c1 ok1) (h2:ArgD t2 β c2 ok2)
  (hps:fn.params = #[t1,t2]) (hres:fn.resultTypes = #[4]) (hvars:s.vars = []) (hfn:∀ (H:Type) (d1 d2:DataW H),s.fn H [d1,d2] = { results:=[.lit (.bool true)],args:=[d1,d2] })
  (sp:α->β->CallSpec) (ht:∀ r a,Triple Try.prog f (sp r a)) (hargs:∀ r a,(sp r a).args = [c1 r,c2 a]) (hpre:∀ r a,ok1 r->ok2 a->(sp r a).pre)
  (hfo:∀ r a E,(sp r a).fnok E) (hin:∀ r a,(sp r a).hin = []) (hout:∀ r a,(sp r a).hout = []) (hr:∀ r a,(sp r a).res=bv true)
  {H:Type} {enc:TypeId × Value->H} {W:World} {base:Nat} {args:Array Value} {ds gs:List (DataW H)} {before:List MemPlace}
  (hval:∀ (j:Nat) t v,fn.params[j]? = some t->args[j]? = some v->Value.okWide Try.prog W .any base t v) (hW:DataW.Whole enc Try.prog fn.params.toList s.vars false W args.toList ds gs before)
  (hsz:(DataW.weightsEach Try.prog (fn.params.toList ++ s.plain.varTypes Try.prog) (ds ++ gs)).all (· <= reachBytes)=true) :
  Calls Try.prog f args W fun e W' => ∃ v,e = .returned v/\s.post enc Try.prog fn false true false false W args v W':=by
 have hW':=hW
 obtain ⟨p,q,hA,_,_,_,_⟩:=hW
 rw [hps] at hA hval hsz
 obtain ⟨v0,v1,d0,d1,p0,p1,rfl,rfl,rfl,g0,g1⟩:=ChangeShapes.trodAll_two hA
 obtain ⟨r,hr0,r0⟩:=h1.2 (hval 0 t1 v0 rfl rfl) g0 (weights_part hsz (j:=0) rfl rfl)
 obtain ⟨a,ha,r1⟩:=h2.2 (hval 1 t2 v1 rfl rfl) g1 (weights_part hsz (j:=1) rfl rfl)
 refine law_contract laidOut hvars hres Try.underlying4 (fun t htt => ?_) (fun _=>hfn H d0 d1) hW' (ht r a) (hpre r a hr0 ha) (hfo r a) (hin r a) (hout r a) (hr r a) (by rw [hargs]; rfl) (fun k => ?_)
 ·rw [hps] at htt
  have:t=t1 ∨ t=t2:=by simpa using htt
  rcases this with rfl | rfl
  ·exact h1.1
  ·exact h2.1
 ·rw [hargs]
  rcases k with _ | _ | k
  ·exact r0
  ·exact r1
  ·exact .any _
end Go.Ab
namespace Go.Ab
open Go Go.RowKit Go.Proofs Go.Sh Go.En
set_option maxRecDepth 100000
theorem dSpan:Dec Try.prog 36 cSpan (fun _=>True) :=
 Dec.map (dec_struct Try.underlying36 (sz:=2) (by kernel_rfl) (decFs_cons (mid:=1) rfl rfl (by kernel_rfl) dInt (decFs_cons (mid:=2) rfl rfl (by kernel_rfl) dInt decFs_nil))) (fun p=>(⟨p.1,p.2.1⟩:Span)) (fun _ _=>rfl) (fun _ _=>trivial)
theorem dStrip:Dec Try.prog 65 cStrip (fun _=>True) :=
 Dec.map (dec_struct Try.underlying65 (sz:=2) (by kernel_rfl) (decFs_cons (mid:=1) rfl rfl (by kernel_rfl) dInt (decFs_cons (mid:=2) rfl rfl (by kernel_rfl) dInt decFs_nil))) (fun p=>(⟨p.1,p.2.1⟩:Strip)) (fun _ _=>rfl) (fun _ _=>trivial)
theorem dPiece:Dec Try.prog 46 cPiece (fun _=>True) :=
 Dec.map (dec_struct Try.underlying46 (sz:=3) (by kernel_rfl) (decFs_cons (mid:=2) rfl rfl (by kernel_rfl) dSpan (decFs_cons (mid:=3) rfl rfl (by kernel_rfl) dInt decFs_nil))) (fun p=>(⟨p.1.lo,p.1.hi,p.2.1⟩:Piece)) (fun _ _=>rfl) (fun _ _=>trivial)
theorem dStrips:Dec Try.prog 22 (fun l:List Strip=>[.sl 2 l.length (fun i=>cStrip (l.getD i default))]) (fun l=>l.length<=140737488355328 /\ ∀ m,m ∈ l->True) :=
 dec_slice (α:=Strip) Try.underlying22 (by kernel_rfl) (by decide) (Nat.lt_of_lt_of_eq (by decide:0 < 16) (by kernel_rfl)) dStrip
theorem dPieces:Dec Try.prog 23 (fun l:List Piece=>[.sl 3 l.length (fun i=>cPiece (l.getD i default))]) (fun l=>l.length<=140737488355328 /\ ∀ m,m ∈ l->True) :=
 dec_slice (α:=Piece) Try.underlying23 (by kernel_rfl) (by decide) (Nat.lt_of_lt_of_eq (by decide:0 < 24) (by kernel_rfl)) dPiece
theorem dIntss:Dec Try.prog 24 (fun l:List (List Int)=>[aIntss l]) (fun l=>l.length<=140737488355328 /\ ∀ m,m ∈ l->m.length<=140737488355328) :=
 dec_slice (α:=List Int) Try.underlying24 (by kernel_rfl) (by decide) (Nat.lt_of_lt_of_eq (by decide:0 < 24) (by kernel_rfl)) dInts
theorem dFrm:Dec Try.prog 26 cFrm fitsF:=by
 refine Dec.map (dec_struct Try.underlying26 (sz:=5) (by kernel_rfl) (decFs_cons (mid:=1) rfl rfl (by kernel_rfl) dInt (decFs_cons (mid:=2) rfl rfl (by kernel_rfl) dInt (decFs_cons (mid:=3) rfl rfl (by kernel_rfl) dStrips (decFs_cons (mid:=4) rfl rfl (by kernel_rfl) dPieces (decFs_cons (mid:=5) rfl rfl (by kernel_rfl) dIntss decFs_nil)))))) (fun p=>(⟨p.1,p.2.1,p.2.2.1,p.2.2.2.1,p.2.2.2.2.1⟩:Frm)) (fun _ _=>rfl) (fun p h => ?_)
 obtain ⟨_,_,⟨h1,_⟩,⟨h2,_⟩,⟨h3,h4⟩,_⟩:=h
 refine ⟨Nat.le_trans h1 (by decide),Nat.le_trans h2 (by decide),Nat.le_trans h3 (by decide),fun i => ?_⟩
 show (p.2.2.2.2.1.getD i []).length<=_
 by_cases hi:i < p.2.2.2.2.1.length
 ·exact Nat.le_trans (h4 _ (getD_mem _ [] hi)) (by decide)
 ·rw [getD_ge _ _ (by omega)]; exact Nat.zero_le _
theorem argFrm:ArgD 26 Frm (fun f=>vFrm f) fitsF:=argStruct Try.underlying26 ⟨by kernel_rfl,of_decide_eq_true (by kernel_rfl)⟩ dFrm
theorem argIntss:ArgD 24 (List (List Int)) aIntss (fun l=>l.length<=140737488355328 /\ ∀ m,m ∈ l->m.length<=140737488355328):=⟨⟨by kernel_rfl,of_decide_eq_true (by kernel_rfl)⟩,fun {_ _ W _ v _ _} hval hd hw=>by
 obtain ⟨a,ha,hr⟩:=dIntss.arg (E:=envOf W) (fun _=>rfl) hd hw
 refine ⟨a,ha,?_⟩
 have h:=hr true
 unfold Value.okWide at hval
 rw [Try.underlying24] at hval
 cases v with
 | agg cs=>unfold Cell.okWide at hval; rw [Try.underlying24] at hval; simp [Cell.ok,Try.underlying24] at hval
 | _=>cases h with | cons h _ _=>exact h⟩
theorem intss_big {l:List (List Int)} (h:l.length<=140737488355328 /\ ∀ m,m ∈ l->m.length<=140737488355328):l.length<=big /\ ∀ i,(l.getD i []).length<=big:=by
 refine ⟨Nat.le_trans h.1 (by decide),fun i => ?_⟩
 by_cases hi:i < l.length
 ·exact Nat.le_trans (h.2 _ (getD_mem _ [] hi)) (by decide)
 ·rw [getD_ge _ _ (by omega)]; exact Nat.zero_le _
end Go.Ab
namespace Go.Proofs.Ytpnmalddfpjcoaa
open Go Go.Ab Go.Sh Go.En Go.RowKit
set_option maxRecDepth 100000
theorem own:ownKnob Try.prog.godebug=none:=by kernel_rfl
def nilArgs:Array Value := #[.agg #[.int .i64 0,.int .i64 0,.slice none 0 0,.slice none 0 0,.slice none 0 0],.slice none 0 0]
theorem lifted (os:Os) (started:os.Started) (H:Type) (enc:TypeId × Value->H) :
  ReturnsInHanded {} Try.checked os 16 .any (Rows.pagesBestSpec.pre6 enc Try.prog Try.f16 Rows.pagesBestRow.domain false) (Rows.pagesBestSpec.post enc Try.prog Try.f16 false true false false):=by
 refine returnsInHanded_of_change_sized (C:=Try.checked) own started (by kernel_rfl) Try.func16
  (ChangeSpec.witness6 (enc:=enc) (C:=Try.checked) false ⟨#[],nilArgs,[]⟩ 8 (by kernel_rfl) (by kernel_rfl) (by kernel_rfl) (by kernel_rfl)) ?_
 intro W base args ds gs before hval hW _ hsz _
 exact law_two argFrm argIntss rfl rfl rfl (fun _ _ _=>rfl) s16 t16 (fun _ _=>rfl) (fun _ _ h0 h1=>⟨h0,intss_big h1⟩) (fun _ _ _=>trivial) (fun _ _=>rfl) (fun _ _=>rfl) (fun _ _=>rfl) hval hW hsz
theorem proved:Rows.PagesBestSaid :=
 OpenClaim.holds_of_wide 16 Try.f16 rfl rfl rfl rfl rfl rfl rfl ⟨rfl,rfl,rfl,rfl,rfl⟩ rfl rfl rfl rfl rfl (by kernel_rfl) Try.func16 (by kernel_rfl)
  (of_decide_eq_true (by kernel_rfl)) (by unfold Func.isWrapper; first | (rw [if_pos (by decide +kernel)]; kernel_rfl) | (rw [if_neg (by decide +kernel)]; exact ⟨rfl,rfl⟩))
  (fun os started H enc _=>lifted os started H enc)
end Go.Proofs.Ytpnmalddfpjcoaa
