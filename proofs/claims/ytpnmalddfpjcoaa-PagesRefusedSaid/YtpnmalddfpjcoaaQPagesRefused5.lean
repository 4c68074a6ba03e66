/- PagesRefused returns true for every input, and leaves what it was handed as it was. No condition. -/
import Derived.Test.YtpnmalddfpjcoaaQPagesRefused4
import Derived.Deep.Slices
import Derived.ChangeShapes
import Derived.Carry
import Derived.OpenShut
import Derived.SizedLaws
import Derived.Test.YtpnmalddfpjcoaaRows
import Derived.ProofKit
import Derived.JoinedOf
set_option linter.all false
set_option linter.deprecated false
namespace Go.Sh
open Go.Ab
def RisN (n:Nat) (l:List Int):Prop:=l.Pairwise (· < ·) /\ ∀ x,x ∈ l->0<=x/\x < n
theorem out_mem {w:Int} {n:Nat} {p:Int}:p ∈ outTo w n ↔ (0<=p/\p < n)/\bitP w p=true:=by
 unfold outTo
 rw [List.mem_filterMap]
 constructor
 ·rintro ⟨i,hi,h⟩
  have hi:=List.mem_range.1 hi
  split at h
  ·cases h; rename_i hb; exact ⟨by omega,hb⟩
  ·cases h
 ·rintro ⟨h1,h2⟩
  have e:((p.toNat:Nat):Int)=p:=by omega
  exact ⟨p.toNat,List.mem_range.2 (by omega),by rw [e,if_pos h2]⟩
theorem out_ris (w:Int) (n:Nat):RisN n (outTo w n):=by
 refine ⟨?_,fun x hx=>(out_mem.1 hx).1⟩
 unfold outTo
 rw [List.pairwise_filterMap]
 refine List.pairwise_lt_range.imp @fun a b h x hx y hy => ?_
 split at hx
 ·split at hy
  ·cases hx; cases hy; omega
  ·cases hy
 ·cases hx
theorem bit_high {w n i:Nat} (h:i < n):bitP ((w + 2 ^ n:Nat):Int) (i:Int)=bitP (w:Int) (i:Int):=by
 unfold bitP
 have e:∀ v:Nat,(v:Int) / 2 ^ ((i:Nat):Int).toNat % 2=((v / 2 ^ i % 2:Nat):Int):=by
  intro v
  rw [Int.toNat_natCast]; norm_cast
 rw [e,e]
 have:(w + 2 ^ n) / 2 ^ i % 2=w / 2 ^ i % 2:=by
  rw [show n=i + 1 + (n - i - 1) by omega,Nat.pow_add,Nat.pow_succ,Nat.mul_assoc,Nat.add_mul_div_left _ _ (Nat.two_pow_pos i),Nat.add_mul_mod_self_left]
 rw [this]
theorem bit_top {w n:Nat} (h:w < 2 ^ n):bitP ((w + 2 ^ n:Nat):Int) (n:Int)=true:=by
 unfold bitP
 rw [Int.toNat_natCast]
 have:(w + 2 ^ n) / 2 ^ n % 2=1:=by
  rw [Nat.add_div_right _ (Nat.two_pow_pos n),Nat.div_eq_of_lt h]
 have e:((w + 2 ^ n:Nat):Int) / 2 ^ n % 2=(((w + 2 ^ n) / 2 ^ n % 2:Nat):Int):=by norm_cast
 rw [e,this]; rfl
theorem bit_none {w n:Nat} (h:w < 2 ^ n):bitP (w:Int) (n:Int)=false:=by
 unfold bitP
 rw [Int.toNat_natCast]
 have e:(w:Int) / 2 ^ n % 2=((w / 2 ^ n % 2:Nat):Int):=by norm_cast
 rw [e,Nat.div_eq_of_lt h]; rfl
theorem fmap_congr {α β:Type} {f g:α->Option β}:∀ {l:List α},(∀ x,x ∈ l->f x=g x)->l.filterMap f=l.filterMap g:=by
 intro l
 induction l with
 | nil=>intro _; rfl
 | cons x l ih =>
  intro h
  rw [List.filterMap_cons,List.filterMap_cons,h x (by simp),ih (fun y hy=>h y (by simp [hy]))]
theorem bits_of:∀ {n:Nat} {l:List Int},RisN n l -> ∃ w:Nat,w < 2 ^ n/\outTo (w:Int) n=l:=by
 intro n
 induction n with
 | zero =>
  intro l h
  have:l = []:=by
   cases l with
   | nil=>rfl
   | cons x l=>have:=h.2 x (by simp); omega
  exact ⟨0,Nat.one_pos,by rw [this]; rfl⟩
 | succ n ih =>
  intro l h
  by_cases hn:(n:Int) ∈ l
  · -- the last one is n
   obtain ⟨a,b,rfl⟩:=List.append_of_mem hn
   have hp:=h.1
   rw [List.pairwise_append] at hp
   have hb:b = []:=by
    cases b with
    | nil=>rfl
    | cons y b =>
     have h1:=(List.pairwise_cons.1 hp.2.1).1 y (by simp)
     have h2:=(h.2 y (by simp)).2
     omega
   subst hb
   obtain ⟨w,hw,e⟩:=ih (l:=a) ⟨hp.1,fun x hx=>by
    have h1:=(h.2 x (by simp [hx])).1
    have h2:=hp.2.2 x hx n (by simp)
    omega⟩
   refine ⟨w + 2 ^ n,by rw [Nat.pow_succ]; omega,?_⟩
   rw [out_t (bit_top hw),← e]
   congr 1
   unfold outTo
   refine fmap_congr fun i hi => ?_
   have:=List.mem_range.1 hi
   rw [bit_high this]
  ·obtain ⟨w,hw,e⟩:=ih (l:=l) ⟨h.1,fun x hx=>by
    have h1:=h.2 x hx
    have:x ≠ n:=fun e=>hn (e ▸ hx)
    omega⟩
   exact ⟨w,by rw [Nat.pow_succ]; omega,by rw [out_f (bit_none hw),e]⟩
def withoutF (f:Frm) (out:List Int):Frm:={ f with columns:=f.columns.map fun c=>c.filter fun p => !isIn out p }
theorem isIn_iff {l:List Int} {p:Int}:isIn l p=true ↔ p ∈ l:=by
 unfold isIn
 rw [List.any_eq_true]
 constructor
 ·rintro ⟨x,hx,h⟩; rw [of_decide_eq_true h] at hx; exact hx
 ·intro h; exact ⟨p,h,by simp⟩
theorem col_without (f:Frm) (out:List Int) (c:Nat):col (withoutF f out) c=(col f c).filter fun p => !isIn out p:=by
 unfold col withoutF
 simp only [List.getD_eq_getElem?_getD,List.getElem?_map]
 cases f.columns[c]? <;> rfl
theorem without_sound {f:Frm} (hs:Sound f) (out:List Int):Sound (withoutF f out):=by
 have hg:∀ i,goodL f (col (withoutF f out) i):=fun i=>by
  rw [col_without]
  exact goodL_mem (Nat.le_trans (List.length_filter_le _ _) (hs.colLen i)) (fun w hw=>mem_goodL (col_good hs i) w (List.mem_filter.1 hw).1)
 exact ⟨hs.len,hs.slack,hs.strips,hs.pieces,by show (f.columns.map _).length<=3; rw [List.length_map]; exact hs.columns,hs.strip,hs.piece,fun i=>(hg i).1,fun i k hk=>(hg i).2 k hk⟩
theorem bit_zero (p:Int):bitP 0 p=false:=by
 unfold bitP; rw [Int.zero_ediv]; rfl
theorem del_zero (l:List Int):delW l (bitP 0)=l:=by
 unfold delW; rw [List.filter_eq_self]; intro p _; rw [bit_zero]; rfl
theorem whole_without {f:Frm} (hs:Sound f) (w:Int):wholeP f w=wholeP (withoutF f (outP f w)) 0:=by
 unfold wholeP
 rw [lockP_congr (f:=f) (g:=withoutF f (outP f w)) rfl]
 have hl:(withoutF f (outP f w)).columns.length=f.columns.length:=by show (f.columns.map _).length=_; rw [List.length_map]
 have e:roomsTo f w f.columns.length=roomsTo (withoutF f (outP f w)) 0 (withoutF f (outP f w)).columns.length:=by
  rw [hl]
  unfold roomsTo
  refine List.map_congr_left fun c _ => ?_
  rw [del_zero,col_without]
  have:(col f c).filter (fun p => !isIn (outP f w) p)=delW (col f c) (bitP w):=by
   unfold delW
   refine List.filter_congr fun p hp => ?_
   have h1:=mem_goodL (col_good hs c) p hp
   have:isIn (outP f w) p=bitP w p:=by
    rw [Bool.eq_iff_iff,isIn_iff]; unfold outP; rw [out_mem]
    exact ⟨fun h=>h.2,fun h=>⟨h1,h⟩⟩
   rw [this]
  rw [this]
  rfl
 rw [e]; rfl
def canP (f:Frm) (out:List Int):Bool:=(wholeP (withoutF f out) 0).isSome
theorem can_bits {f:Frm} (hs:Sound f) (w:Int):(wholeP f w).isSome=canP f (outP f w):=by unfold canP; rw [whole_without hs]
def LtK (f:Frm) (a b:List Int):Prop:=penceP f a < penceP f b ∨ (penceP f a=penceP f b/\(a.length < b.length ∨ (a.length=b.length/\earlier a b=true)))
theorem earlier_trans:∀ {a b c:List Int},earlier a b=true->earlier b c=true->earlier a c=true:=by
 intro a
 induction a with
 | nil=>intro b c h; cases h
 | cons x xs ih =>
  intro b c h1 h2
  match b,c,h1,h2 with
  | y :: ys,z :: zs,h1,h2 =>
   simp only [earlier] at h1 h2 ⊢
   by_cases e:x=y
   ·subst e
    rw [if_pos rfl] at h1
    by_cases e2:x=z
    ·subst e2; rw [if_pos rfl] at h2 ⊢; exact ih h1 h2
    ·rw [if_neg e2] at h2 ⊢; exact h2
   ·rw [if_neg e] at h1
    by_cases e2:y=z
    ·subst e2; rw [if_neg e]; exact h1
    ·rw [if_neg e2] at h2
     simp only [decide_eq_true_eq] at h1 h2
     rw [if_neg (by omega)]; exact decide_eq_true (by omega)
theorem LtK_trans {f:Frm} {a b c:List Int} (h1:LtK f a b) (h2:LtK f b c):LtK f a c:=by
 unfold LtK at *
 rcases h1 with h1 | ⟨h1,h1'⟩
 ·rcases h2 with h2 | ⟨h2,_⟩ <;> exact .inl (by omega)
 ·rcases h2 with h2 | ⟨h2,h2'⟩
  ·exact .inl (by omega)
  ·refine .inr ⟨by omega,?_⟩
   rcases h1' with h1' | ⟨h1',k1⟩
   ·rcases h2' with h2' | ⟨h2',_⟩ <;> exact .inl (by omega)
   ·rcases h2' with h2' | ⟨h2',k2⟩
    ·exact .inl (by omega)
    ·exact .inr ⟨by omega,earlier_trans k1 k2⟩
theorem LtK_irr {f:Frm} {a:List Int}:¬ LtK f a a:=by
 rintro (h | ⟨_,h | ⟨_,h⟩⟩)
 ·omega
 ·omega
 ·rw [earlier_irr] at h; cases h
theorem cmpL_early:∀ {a b:List Int},a.length=b.length->(cmpL a b < 0 ↔ earlier a b=true):=by
 intro a
 induction a with
 | nil =>
  intro b h
  have:b = []:=List.eq_nil_of_length_eq_zero h.symm
  subst this
  exact ⟨fun h=>absurd h (by decide),fun h=>by cases h⟩
 | cons x xs ih =>
  intro b h
  match b,h with
  | y :: ys,h =>
   simp only [cmpL,earlier]
   by_cases e:x=y
   ·subst e
    rw [if_pos (cmpW_same x),if_pos rfl]
    exact ih (Nat.succ.inj h)
   ·rw [if_neg (fun h=>e (cmpW_zero h)),if_neg e]
    unfold cmpW
    by_cases h1:x < y
    ·rw [if_pos h1]; exact ⟨fun _=>decide_eq_true h1,fun _=>by omega⟩
    ·rw [if_neg h1,if_pos (by omega)]
     exact ⟨fun h=>absurd h (by omega),fun h=>absurd (of_decide_eq_true h) h1⟩
theorem orI3 (a b c:Int):orI [a,b,c]=if a=0 then (if b=0 then c else b) else a:=by
 unfold orI
 by_cases h1:a=0
 ·subst h1
  by_cases h2:b=0
  ·subst h2
   by_cases h3:c=0
   ·subst h3; rfl
   ·simp [h3]
  ·simp [h2]
 ·simp [h1]
theorem or_lt {f:Frm} {a b:List Int}:orI [penceP f a - penceP f b,(a.length:Int) - (b.length:Int),cmpL a b] < 0 ↔ LtK f a b:=by
 rw [orI3]
 unfold LtK
 by_cases h1:penceP f a=penceP f b
 ·rw [if_pos (by omega)]
  by_cases h2:a.length=b.length
  ·rw [if_pos (by omega),cmpL_early h2]
   constructor
   ·intro h; exact .inr ⟨h1,.inr ⟨h2,h⟩⟩
   ·rintro (h | ⟨_,h | ⟨_,h⟩⟩)
    ·omega
    ·omega
    ·exact h
  ·rw [if_neg (by omega)]
   constructor
   ·intro h; exact .inr ⟨h1,.inl (by omega)⟩
   ·rintro (h | ⟨_,h | ⟨h,_⟩⟩)
    ·omega
    ·omega
    ·omega
 ·rw [if_neg (by omega)]
  constructor
  ·intro h; exact .inl (by omega)
  ·rintro (h | ⟨h,_⟩) <;> omega
def BestO (f:Frm) (n:Nat) (x:List Int × Int):Prop:=x.2=penceP f x.1/\(∃ w:Nat,w < n/\x.1=outP f (w:Int)/\(wholeP f (w:Int)).isSome=true) /\ ∀ v:Nat,v < n->(wholeP f (v:Int)).isSome=true -> ¬ LtK f (outP f (v:Int)) x.1
theorem worse_iff {f:Frm} {x:List Int × Int} (hx:x.2=penceP f x.1) (w:Int):worse f (some x) w=true ↔ ¬ LtK f (outP f w) x.1:=by
 unfold worse
 simp only [decide_eq_true_eq]
 rw [hx,← or_lt]
 omega
theorem ref_best (f:Frm):∀ n,(refTo f n=none -> ∀ v,v < n->(wholeP f (v:Int)).isSome=false) /\ ∀ x,refTo f n=some x->BestO f n x:=by
 intro n
 induction n with
 | zero=>exact ⟨fun _ v hv=>absurd hv (Nat.not_lt_zero _),fun x h=>(by cases h)⟩
 | succ n ih =>
  obtain ⟨ih1,ih2⟩:=ih
  rw [ref_succ]
  unfold stepO
  cases e:refTo f n with
  | none =>
   have h0:=ih1 e
   cases hw:(wholeP f (n:Int)).isSome with
   | false =>
    rw [if_pos (by simp [worse])]
    exact ⟨fun _=>lt_succ_cases h0 hw,fun x h=>(by cases h)⟩
   | true =>
    rw [if_neg (by simp [worse])]
    refine ⟨fun h=>(by cases h),fun x h => ?_⟩
    cases h
    refine ⟨rfl,⟨n,Nat.lt_succ_self n,rfl,hw⟩,fun v hv hc => ?_⟩
    by_cases hvn:v=n
    ·subst hvn; exact LtK_irr
    ·rw [h0 v (by omega)] at hc; cases hc
  | some x =>
   obtain ⟨g1,⟨w,g2,g3,g4⟩,g5⟩:=ih2 x e
   cases hw:(wholeP f (n:Int)).isSome with
   | false =>
    rw [if_pos (by simp)]
    refine ⟨fun h=>(by cases h),fun y h => ?_⟩
    cases h
    refine ⟨g1,⟨w,by omega,g3,g4⟩,fun v hv hc => ?_⟩
    by_cases hvn:v=n
    ·subst hvn; rw [hw] at hc; cases hc
    ·exact g5 v (by omega) hc
   | true =>
    by_cases hl:LtK f (outP f (n:Int)) x.1
    ·have:worse f (some x) (n:Int)=false:=by
      cases e2:worse f (some x) (n:Int) with
      | false=>rfl
      | true=>exact absurd hl ((worse_iff g1 _).1 e2)
     rw [this,if_neg (by simp)]
     refine ⟨fun h=>(by cases h),fun y h => ?_⟩
     cases h
     refine ⟨rfl,⟨n,Nat.lt_succ_self n,rfl,hw⟩,fun v hv hc => ?_⟩
     by_cases hvn:v=n
     ·subst hvn; exact LtK_irr
     ·intro h; exact g5 v (by omega) hc (LtK_trans h hl)
    ·rw [(worse_iff g1 _).2 hl,if_pos (by simp)]
     refine ⟨fun h=>(by cases h),fun y h => ?_⟩
     cases h
     refine ⟨g1,⟨w,by omega,g3,g4⟩,fun v hv hc => ?_⟩
     by_cases hvn:v=n
     ·subst hvn; exact hl
     ·exact g5 v (by omega) hc
theorem refP_some {f:Frm} (hs:Sound f) {x:List Int × Int} (h:refP f=some x):x.2=penceP f x.1/\RisN f.pieces.length x.1/\canP f x.1=true /\ ∀ l,RisN f.pieces.length l->canP f l=true -> ¬ LtK f l x.1:=by
 obtain ⟨h1,⟨w,h2,h3,h4⟩,h5⟩:=(ref_best f (2 ^ f.pieces.length)).2 x h
 rw [can_bits hs] at h4
 refine ⟨h1,by rw [h3]; exact out_ris _ _,by rw [h3]; exact h4,fun l hl hc => ?_⟩
 obtain ⟨v,hv,e⟩:=bits_of hl
 have:=h5 v hv (by rw [can_bits hs]; unfold outP; rw [e]; exact hc)
 unfold outP at this
 rw [e] at this; exact this
theorem refP_none {f:Frm} (hs:Sound f) (h:refP f=none) {l:List Int} (hl:RisN f.pieces.length l):canP f l=false:=by
 obtain ⟨v,hv,e⟩:=bits_of hl
 have:=(ref_best f (2 ^ f.pieces.length)).1 h v hv
 rw [can_bits hs] at this
 unfold outP at this
 rw [e] at this; exact this
def lostV (f:Frm):Int:=match refP f with | some x=>x.2 | none=>100000
theorem lostV_in {f:Frm} (hs:Sound f):0<=lostV f/\lostV f<=100000:=by
 unfold lostV
 cases e:refP f with
 | none=>exact ⟨by decide,by decide⟩
 | some x=>have:=ref_ok hs _ x e; exact ⟨this.1,by have:=this.2.1; show x.2<=_; omega⟩
theorem lostV_le {f o:Frm} (hs:Sound f) (ho:Sound o) (hn:f.pieces.length=o.pieces.length) (hp:∀ l,penceP o l=penceP f l) (h:∀ l,RisN f.pieces.length l->canP f l=true->canP o l=true):lostV o<=lostV f:=by
 unfold lostV
 cases e:refP f with
 | none=>exact (lostV_in ho).2
 | some x =>
  obtain ⟨h1,h2,h3,h4⟩:=refP_some hs e
  cases e2:refP o with
  | none =>
   have:=refP_none ho e2 (hn ▸ h2)
   rw [h _ h2 h3] at this; cases this
  | some y =>
   obtain ⟨g1,g2,g3,g4⟩:=refP_some ho e2
   have:=g4 x.1 (hn ▸ h2) (h _ h2 h3)
   show y.2<=x.2
   rw [g1,h1,← hp]
   rcases Int.lt_or_le (penceP o x.1) (penceP o y.1) with hlt | hle
   ·exact absurd (.inl hlt) this
   ·exact hle
end Go.Sh
namespace Go.Sh
open Go.Ab
def laysC (f:Frm):Nat->List Int->List (List (List Int))
 | 0,_=>[[]]
 | m + 1,left=>(setsP left).flatMap fun s=>if sureP f (f.columns.length - (m + 1)) (pointsP f s) then (laysC f m (restL left s)).map (s :: ·) else []
theorem good_mem {f:Frm} {left s:List Int} (h:GoodLeft f left) (hs:s ∈ setsP left):∃ i,i < prodL left/\s=setN left i:=by
 rw [setsP_eq] at hs
 obtain ⟨i,hi,e⟩:=List.mem_map.1 hs
 exact ⟨i,List.mem_range.1 hi,e.symm⟩
theorem sure_room {f:Frm} (hs:Sound f) (c:Nat) {n:Int} (hn:0<=n):sureP f c n=within n (roomP f (highP f (col f c))).lo (roomP f (highP f (col f c))).hi:=by
 rw [Bool.eq_iff_iff,within_room hn]
 have h:=high_bound' hs (col_good hs c)
 have h2:=hs.slack
 unfold sureP lockedAt sureH
 rw [Bool.and_eq_true,within_iff,within_iff]
 omega
theorem flatMap_congr' {α β:Type} {f g:α->List β}:∀ {l:List α},(∀ x,x ∈ l->f x=g x)->l.flatMap f=l.flatMap g:=by
 intro l
 induction l with
 | nil=>intro _; rfl
 | cons x l ih =>
  intro h
  rw [List.flatMap_cons,List.flatMap_cons,h x (by simp),ih (fun y hy=>h y (by simp [hy]))]
theorem laysC_eq {f:Frm} (hs:Sound f):∀ (m:Nat) (left:List Int),m<=f.columns.length->GoodLeft f left->laysC f m left=laysR f ((roomsTo f 0 f.columns.length).drop (f.columns.length - m)) left:=by
 intro m
 induction m with
 | zero=>intro left _ _; rw [Nat.sub_zero,List.drop_of_length_le (by rw [rooms_len]; exact Nat.le_refl _)]; rfl
 | succ m ih =>
  intro left hm hl
  have hc:f.columns.length - (m + 1) < f.columns.length:=by omega
  rw [drop_cons ⟨0,0⟩ (by rw [rooms_len]; exact hc),rooms_get hc,del_zero,laysC,laysR]
  refine flatMap_congr' fun s hs' => ?_
  obtain ⟨i,hi,rfl⟩:=good_mem hl hs'
  rw [sure_room hs _ (pts_bound hs (hl.isSet hi)).1,ih _ (by omega) (hl.rest hi),show f.columns.length - (m + 1) + 1=f.columns.length - m by omega]
theorem laysC_all {f:Frm} (hs:Sound f):laysC f f.columns.length (stockTo f f.strips.length)=laysR f (roomsTo f 0 f.columns.length) (stockTo f f.strips.length):=by
 rw [laysC_eq hs _ _ (Nat.le_refl _) (stock_good hs),Nat.sub_self]; rfl
theorem whole_lays {f:Frm} (hs:Sound f):wholeP f 0=fmL (laysC f f.columns.length (stockTo f f.strips.length)):=by
 rw [laysC_all hs]; unfold wholeP; rw [lock_fm]
theorem fm_isSome (ls:List (List (List Int))):(fmL ls).isSome=decide ((ls.length:Int) > 0):=by
 cases e:fmL ls with
 | none=>rw [fm_none e]; rfl
 | some x =>
  cases ls with
  | nil=>cases e
  | cons y ls=>simp
theorem laysC_len {f:Frm} (hs:Sound f):∀ (m:Nat) (left:List Int),GoodLeft f left->prodL left<=30->(laysC f m left).length<=30 ^ m:=by
 intro m
 induction m with
 | zero=>intro left _ _; exact Nat.le_refl _
 | succ m ih =>
  intro left hl hp
  rw [laysC]
  have h1:=flatMap_len (fun s=>if sureP f (f.columns.length - (m + 1)) (pointsP f s) then (laysC f m (restL left s)).map (s :: ·) else []) (30 ^ m) (setsP left) (fun s hs'=>by
   obtain ⟨i,hi,rfl⟩:=good_mem hl hs'
   split
   ·rw [List.length_map]
    refine ih _ (hl.rest hi) (Nat.le_trans ?_ hp)
    have:∀ (a b:List Int),a.length=b.length->(∀ q,q < a.length->a.getD q 0<=b.getD q 0)->prodL a<=prodL b:=by
     intro a
     induction a with
     | nil=>intro b h _; rw [List.eq_nil_of_length_eq_zero h.symm]; exact Nat.le_refl _
     | cons x a iha =>
      intro b h h2
      match b,h,h2 with
      | y :: b,h,h2 =>
       have h0:x<=y:=h2 0 (Nat.succ_pos _)
       exact Nat.mul_le_mul (by omega) (iha b (Nat.succ.inj h) (fun q hq=>h2 (q + 1) (Nat.succ_lt_succ hq)))
    refine this _ _ (restL_len _ _) (fun q hq => ?_)
    rw [restL_len] at hq
    rw [restL_get hq]
    have:=hl.set hi q hq
    omega
   ·exact Nat.zero_le _)
  have h2:(setsP left).length=prodL left:=by rw [setsP_eq,List.length_map,List.length_range]
  rw [h2] at h1
  exact Nat.le_trans h1 (by rw [Nat.pow_succ,Nat.mul_comm]; exact Nat.mul_le_mul_left _ hp)
theorem ris_len {n:Nat} {l:List Int} (h:RisN n l):l.length<=n:=by
 obtain ⟨w,_,e⟩:=bits_of h
 rw [← e]; exact out_len _ _
end Go.Sh
namespace Go.Sh
open Go.Ab
theorem high_snoc (f:Frm) (l:List Int) (p:Int):highP f (l ++ [p])=hiStep f (highP f l) p:=by unfold highP; rw [List.foldl_append]; rfl
theorem high_mono {f o:Frm} (hp:∀ i,(pc f i).lo<=(pc o i).lo/\(pc o i).hi<=(pc f i).hi) (l:List Int):(highP f l).lo<=(highP o l).lo/\(highP o l).hi<=(highP f l).hi:=by
 induction l using snoc_ind with
 | h0=>exact ⟨Int.le_refl _,Int.le_refl _⟩
 | h1 l p ih =>
  rw [high_snoc,high_snoc]
  have:=hp p.toNat
  simp only [hiStep]
  omega
structure AsGood (f o:Frm):Prop where
 strips:o.strips.length=f.strips.length
 thick:∀ i,(stp o i).thick=(stp f i).thick
 many:∀ i,i < f.strips.length->(stp f i).many<=(stp o i).many
 columns:o.columns=f.columns
 length:o.length=f.length
 slack:f.slack<=o.slack
 pieces:o.pieces.length=f.pieces.length
 high:∀ i,(pc f i).lo<=(pc o i).lo/\(pc o i).hi<=(pc f i).hi
 pence:∀ i,(pc o i).pence=(pc f i).pence
theorem AsGood.points {f o:Frm} (h:AsGood f o) (s:List Int):pointsP o s=pointsP f s:=by
 unfold pointsP ptTo
 congr 1
 funext a i
 rw [h.thick]
theorem AsGood.lay {f o:Frm} (h:AsGood f o) (hs:Sound f) (ho:Sound o) {w:Int} {l:List (List Int)} (hl:LayF f w l):LayF o w l:=by
 rw [layF_iff hs] at hl
 rw [layF_iff ho]
 obtain ⟨h1,h2,h3⟩:=hl
 refine ⟨by rw [h.columns]; exact h1,fun i hi => ?_,fun q hq => ?_⟩
 ·rw [h.columns] at hi
  obtain ⟨a,b,c⟩:=h2 i hi
  refine ⟨by rw [h.strips]; exact a,fun q hq=>b q (by rw [← h.strips]; exact hq),?_⟩
  have e:col o i=col f i:=by unfold col; rw [h.columns]
  rw [e,h.points]
  have:=high_mono h.high (delW (col f i) (bitP w))
  unfold sureH at c ⊢
  have h4:=h.length
  have h5:=h.slack
  omega
 ·rw [h.strips] at hq
  have:=h3 q hq
  have:=h.many q hq
  omega
theorem AsGood.without {f o:Frm} (h:AsGood f o) (out:List Int):AsGood (withoutF f out) (withoutF o out) :=
 ⟨h.strips,h.thick,h.many,by show o.columns.map _=f.columns.map _; rw [h.columns],h.length,h.slack,h.pieces,h.high,h.pence⟩
theorem AsGood.pence' {f o:Frm} (h:AsGood f o) (l:List Int):penceP o l=penceP f l:=by
 unfold penceP
 congr 1
 funext a p
 rw [h.pence]
theorem whole_is {f:Frm} {w:Int}:(wholeP f w).isSome=true ↔ ∃ l,LayF f w l:=by
 constructor
 ·intro h
  cases e:wholeP f w with
  | none=>rw [e] at h; cases h
  | some x=>exact ⟨x.1,(whole_some e).1⟩
 ·rintro ⟨l,hl⟩; exact whole_of hl
theorem can_is {f:Frm} {out:List Int}:canP f out=true ↔ ∃ l,LayF (withoutF f out) 0 l:=whole_is
theorem AsGood.lostV {f o:Frm} (h:AsGood f o) (hs:Sound f) (ho:Sound o):lostV o<=lostV f:=by
 refine lostV_le hs ho h.pieces.symm h.pence' fun l _ hc => ?_
 rw [can_is] at hc ⊢
 obtain ⟨x,hx⟩:=hc
 exact ⟨x,(h.without l).lay (without_sound hs l) (without_sound ho l) hx⟩
end Go.Sh
namespace Go.Sh
open Go.Ab
variable {f:Frm}
end Go.Sh
namespace Go.Sh
structure Plc where
 column:Int
 set:List Int
 one:Int
 other:Int
def stockedF (f:Frm) (k:Nat) (m:Int):Frm:={ f with strips:=f.strips.set k { stp f k with many:=m } }
def exP:Frm:=⟨60,2,[⟨5,2⟩,⟨3,2⟩,⟨18,1⟩],[⟨20,21,9⟩,⟨30,30,5⟩,⟨40,41,7⟩,⟨12,13,4⟩],[[0,1],[2,3]]⟩
def exO:Frm:=stockedF exP 1 3
end Go.Sh
namespace Go.En
open Go Go.Ab Go.Sh
def cPlc (x:Plc):List AV:=[iv x.column,aInts x.set,iv x.one,iv x.other]
abbrev vPlc (x:Plc):AV := .agg (cPlc x)
end Go.En
namespace Go.Ab
open Go Go.RowKit Go.Proofs Go.Sh Go.En
def ou31 (f:Frm):OutSpec:={ args:=[vFrm f],pre:=smallF f,res := .agg [iv f.length,iv f.slack,.vec 0,.vec 1,.vec 2],hout:=[(0,.vec 65 2 f.strips.length (fun i=>cStrip (stp f i))),(1,.vec 46 3 f.pieces.length (fun i=>cPiece (pc f i))),(2,.vec 27 1 f.columns.length (fun i=>[aInts (col f i)]))] }
def h31 (f:Frm):Hint:={ X:=Nat,M:=fun i=>[(4,iv i)],H:=fun i=>[(120,.cells 26 [iv f.length,iv f.slack,.vec 72,.vec 104,.vec 5000]),(5000,.vec 27 1 i (fun k=>[aInts (col f k)]))],I:=fun i=>i<=f.columns.length,mu:=fun i=>f.columns.length - i,x0:=(0:Nat),nx:=fun i=>i + 1 }
def s31o (f:Frm) (id:Nat):CallSpec:=(ou31 f).at [(0,id),(1,id + 1),(2,id + 2)]
def s49 (f:Frm) (k m:Int):CallSpec:={ args:=[vFrm f,iv k,iv m],res:=vFrm (stockedF f k.toNat m),pre:=smallF f/\0<=k/\k < f.strips.length }
def c49 (f:Frm) (k m:Int) (id:Nat):CallSpec:=s31o f id
def s82:CallSpec:={ args:=[],res := .tup [vFrm exP,vFrm exO] }
def c82:CallSpec:=s49 exP 1 3
def s82o (f o:Frm):CallSpec:={ args:=[],res := .tup [vFrm f,vFrm o],pre:=f=exP/\o=exO }
def sw20 (f o:Frm):CallSpec:={ args:=[],res:=bv true,pre:=f=exP/\o=exO }
def c20a (f o:Frm):CallSpec:=s82o f o
def c20b (f o:Frm):CallSpec:=s36 o 0 [2,0,0]
def c20c (f o:Frm):CallSpec:=s40 (refuseL f) [3]
def s20:CallSpec:={ args:=[],res:=bv true }
def s3 (f:Frm) (x:Plc):CallSpec:={ args:=[vFrm f,vPlc x],res:=bv true,pre:=fitsF f/\x.set.length<=big }
end Go.Ab
namespace Go.Ab
open Go Go.RowKit Go.Proofs Go.Sh Go.En
theorem wo31 (f:Frm)
  (o0:smallF f->0 + List.length (Frm.strips f)<=65536)
  (o1:smallF f->0 + List.length (Frm.pieces f)<=65536)
  (o2:smallF f->0=(↑0:Int))
  (o3:smallF f->0<=List.length (Frm.columns f))
  (o4:smallF f -> ∀ (x0:Nat),x0<=f.columns.length->decide ((x0:Int) < (↑(f.columns.length):Int))=true->0<=(x0:Int))
  (o5:smallF f -> ∀ (x0:Nat),x0<=f.columns.length->decide ((x0:Int) < (↑(f.columns.length):Int))=true->(x0:Int) < (↑(f.columns.length):Int))
  (o6:smallF f -> ∀ (x0:Nat),x0<=f.columns.length->decide ((x0:Int) < (↑(f.columns.length):Int))=true->0 + (col f x0).length<=65536)
  (o7:smallF f -> ∀ (x0:Nat),x0<=f.columns.length->decide ((x0:Int) < (↑(f.columns.length):Int))=true->x0 + 1<=65536)
  (o8:smallF f -> ∀ (x0:Nat),x0<=f.columns.length->decide ((x0:Int) < (↑(f.columns.length):Int))=true->inI ((x0:Int) + 1))
  (o9:smallF f -> ∀ (x0:Nat),x0<=f.columns.length->decide ((x0:Int) < (↑(f.columns.length):Int))=true->(x0:Int) + 1=(↑(x0 + 1):Int))
  (o10:smallF f -> ∀ (x0:Nat),x0<=f.columns.length->decide ((x0:Int) < (↑(f.columns.length):Int))=true -> ∀ (i2:Nat),i2 < x0 + 1->catF x0 (fun (k:Nat)=>[aInts (col f k)]) (fun (j:Nat)=>List.getD [[AV.sl 1 (0 + (col f x0).length) fun (i:Nat)=>[iv ((col f x0).getD i 0)]]] j (TI.za ti27)) i2 = [aInts (col f i2)])
  (o11:smallF f -> ∀ (x0:Nat),x0<=f.columns.length->decide ((x0:Int) < (↑(f.columns.length):Int))=true->x0 + 1<=f.columns.length)
  (o12:smallF f -> ∀ (x0:Nat),x0<=f.columns.length->decide ((x0:Int) < (↑(f.columns.length):Int))=true->f.columns.length - (x0 + 1) < f.columns.length - x0)
  (o13:smallF f -> ∀ (x0:Nat),x0<=f.columns.length->decide ((x0:Int) < (↑(f.columns.length):Int))=false->0 + f.strips.length=f.strips.length)
  (o14:smallF f -> ∀ (x0:Nat),x0<=f.columns.length->decide ((x0:Int) < (↑(f.columns.length):Int))=false->0 + f.pieces.length=f.pieces.length)
  (o15:smallF f -> ∀ (x0:Nat),x0<=f.columns.length->decide ((x0:Int) < (↑(f.columns.length):Int))=false->x0=f.columns.length)
  (l:List (Nat × Nat)) (hl:l.map (·.1)=(OutSpec.hout (ou31 f)).map (·.1)) (hnd:(l.map (·.2)).Nodup) :
  Triple Try.prog 31 (OutSpec.at (ou31 f) l):=by
 refine triple_out Try.func31 rfl Try.call31 T0_ok _ _ _ _ l rfl (Nat.le_of_ble_eq_true (by kernel_rfl)) hl hnd (by kernel_rfl) (by kernel_rfl) (by kernel_rfl) ?_
 intro hpre C hC hE
 obtain ⟨P,w0,E0,av,hA,ro,df⟩:=C
 obtain ⟨rfl,rfl,rfl⟩:=hC
 refine swp_seq ?_
 refine zR [1,2] [0,8] (Ak 2 tv) ?_
 refine swp_seq ?_
 refine zR [1,2,3] [0,8,120,72,104] (Ak 7 (An (o0 hpre) (Ak 3 (An (o1 hpre) (Ak 3 tv))))) ?_
 refine swp_seq ?_
 refine swp_seq ?_
 refine zR [1,2,3,4] [0,8,120,72,104] (Ak 1 tv) ?_
 refine swp_block ?_
 refine zL (Hint.ann (h31 f) [(1,AV.ptr 0 []),(2,AV.ptr 8 []),(3,AV.ptr 120 [])] [(0,OB.cells 26 (cFrm f)),(8,OB.cells 26 [iv 0,iv 0,nilv,nilv,nilv]),(72,OB.vec 65 2 (0 + f.strips.length) fun (i:Nat)=>cStrip (stp f i)),(104,OB.vec 46 3 (0 + f.pieces.length) fun (i:Nat)=>cPiece (pc f i))] 10144) (zE hE [] [(0,.same 0),(8,.same 8),(120,.same 120),(72,.same 72),(104,.same 104),(5000,.nil)] [] [0,8,72,104] (An (An (An (zr (some (Src.same 0))) (zr nilP)) (An (An (zr (some (Src.same 8))) (zr nilP)) (An (An (zr (some (Src.same 120))) (zr nilP)) (An (An (ci (o2 hpre)) (zr nilN)) tv)))) (An (An (An (zr (OB.cells 26 (cFrm f))) (zr true)) (An (An (zr (OB.cells 26 [iv 0,iv 0,nilv,nilv,nilv])) (zr true)) (An (An (zr (OB.vec 65 2 (0 + f.strips.length) fun (i:Nat)=>cStrip (stp f i))) (zr true)) (An (An (zr (OB.vec 46 3 (0 + f.pieces.length) fun (i:Nat)=>cPiece (pc f i))) (zr true)) (An (An (zr 26) (An (An (An (zr (iv f.length)) (zr nilN)) (An (An (zr (iv f.slack)) (zr nilN)) (An (zr (some (Src.same 72))) (An (zr (some (Src.same 104))) (An (zr (some Src.nil)) tv))))) (zr true))) (An (zr 0) tv)))))) (An (zr true) (zr true))))) (o3 hpre) (fun (x0:Nat) hx0 => ?_)
 refine swp_seq ?_
 refine swp_seq ?_
 refine zR [1,2,3,4,22] [0,8,120,72,104,5000] (Ak 5 tv) ?_
 refine zI (decide ((x0:Int) < (↑(f.columns.length):Int))) (fun y1 => ?_) (fun y1 => ?_)
 ·refine swp_skip ?_
  refine swp_seq ?_
  refine swp_block ?_
  refine zR [1,2,3,4] [0,8,120,72,104,10264] (Ak 6 (An (An (o4 hpre x0 hx0 y1) (o5 hpre x0 hx0 y1)) (Ak 1 (An (o6 hpre x0 hx0 y1) (Ak 1 (An (o7 hpre x0 hx0 y1) (Ak 2 tv))))))) ?_
  refine zR [1,2,3,4] [0,8,120,72,104,10264] (Ak 1 (An (o8 hpre x0 hx0 y1) (Ak 1 tv))) ?_
  exact zn (zE hE [] [(0,.same 0),(8,.same 8),(120,.same 120),(72,.same 72),(104,.same 104),(5000,.same 10264)] [] [0,8,72,104] (An (An (An (zr (some (Src.same 0))) (zr nilP)) (An (An (zr (some (Src.same 8))) (zr nilP)) (An (An (zr (some (Src.same 120))) (zr nilP)) (An (An (ci (o9 hpre x0 hx0 y1)) (zr nilN)) tv)))) (An (An (An (zr (OB.cells 26 (cFrm f))) (zr true)) (An (An (zr (OB.cells 26 [iv 0,iv 0,nilv,nilv,nilv])) (zr true)) (An (An (zr (OB.vec 65 2 (0 + f.strips.length) fun (i:Nat)=>cStrip (stp f i))) (zr true)) (An (An (zr (OB.vec 46 3 (0 + f.pieces.length) fun (i:Nat)=>cPiece (pc f i))) (zr true)) (An (An (zr 26) (An (An (An (zr (iv f.length)) (zr nilN)) (An (An (zr (iv f.slack)) (zr nilN)) (An (zr (some (Src.same 72))) (An (zr (some (Src.same 104))) (An (zr (some (Src.same 10264))) tv))))) (zr true))) (An (An (zr 27) (An (zr 1) (An (zr (x0 + 1)) (fun (i2:Nat)=>(fun (y3:i2 < x0 + 1)=>(o10 hpre x0 hx0 y1 i2 y3)))))) tv)))))) (An (zr true) (zr true))))) (o11 hpre x0 hx0 y1) (o12 hpre x0 hx0 y1)
 ·refine swp_exit ?_
  refine swp_seq ?_
  refine zR [2] [8,72,104,5000] (Ak 2 tv) ?_
  refine swp_ret ?_
  exact zO (ASt.mk [(2,AV.ptr 90 [])] [(90,OB.cells 26 [iv f.length,iv f.slack,AV.vec 0,AV.vec 1,AV.vec 2]),(0,OB.vec 65 2 f.strips.length fun (i:Nat)=>cStrip (stp f i)),(1,OB.vec 46 3 f.pieces.length fun (i:Nat)=>cPiece (pc f i)),(2,OB.vec 27 1 f.columns.length fun (i:Nat)=>[aInts (col f i)])] 100) (zE hE [] [(90,.same 8),(0,.same 72),(1,.same 104),(2,.same 5000)] [] [] (An (An (An (zr (some (Src.same 8))) (zr nilP)) tv) (An (An (An (zr 26) (An (An (An (zr (iv f.length)) (zr nilN)) (An (An (zr (iv f.slack)) (zr nilN)) (An (zr (some (Src.same 72))) (An (zr (some (Src.same 104))) (An (zr (some (Src.same 5000))) tv))))) (zr true))) (An (An (zr 65) (An (zr 2) (An (o13 hpre x0 hx0 y1) (fun (i4:Nat)=>(fun (y5:i4 < 0 + f.strips.length)=>(zr (cStrip (stp f i4)))))))) (An (An (zr 46) (An (zr 3) (An (o14 hpre x0 hx0 y1) (fun (i6:Nat)=>(fun (y7:i6 < 0 + f.pieces.length)=>(zr (cPiece (pc f i6)))))))) (An (An (zr 27) (An (zr 1) (An (o15 hpre x0 hx0 y1) (fun (i8:Nat)=>(fun (y9:i8 < x0)=>(zr ([aInts (col f i8)]))))))) tv)))) (An (zr true) (zr true))))) (An (Ak 1 tv) (An (zr (AV.agg [iv f.length,iv f.slack,AV.vec 0,AV.vec 1,AV.vec 2])) (An (zr (some (OB.vec 65 2 f.strips.length fun (i:Nat)=>cStrip (stp f i)))) (An (zr (some (OB.vec 46 3 f.pieces.length fun (i:Nat)=>cPiece (pc f i)))) (An (zr (some (OB.vec 27 1 f.columns.length fun (i:Nat)=>[aInts (col f i)]))) tv)))))
theorem to31 (f:Frm) (l:List (Nat × Nat)) (hl:l.map (·.1) = [0,1,2]) (hnd:(l.map (·.2)).Nodup):Triple Try.prog 31 ((ou31 f).at l):=by
 apply wo31 (l:=l) (hl:=hl) (hnd:=hnd)
 all_goals (intro hp; obtain ⟨a1,a2,a3,a4⟩:=hp)
 case o6=>intro x hx hl; have:=a4 x; show _<=_; omega
 case o10 =>
  intro x hx hl i hi
  refine catF_idx (fun k=>[aInts (col f k)]) ?_ hi
  show [AV.sl 1 (0 + (col f x).length) _] = [aInts (col f x)]
  rw [Nat.zero_add]; rfl
 all_goals (first | omega | rfl | skip)
 all_goals (intro x hx hl; simp only [decide_eq_true_eq,decide_eq_false_iff_not] at hl)
 all_goals (first | omega | (simp only [inI]; omega))
theorem t31o (f:Frm) (id:Nat):Triple Try.prog 31 (s31o f id):=to31 f _ rfl (by simp)
theorem w49 (f:Frm) (k:Int) (m:Int)
  (o0:smallF f/\0<=k/\k < (↑(f.strips.length):Int)->0<=k)
  (o1:smallF f/\0<=k/\k < (↑(f.strips.length):Int)->k < (↑(f.strips.length):Int))
  (o2:smallF f/\0<=k/\k < (↑(f.strips.length):Int)->k.toNat < f.strips.length)
  (o3:smallF f/\0<=k/\k < (↑(f.strips.length):Int)->0<=k)
  (o4:smallF f/\0<=k/\k < (↑(f.strips.length):Int)->k < (↑(f.strips.length):Int))
  (o5:smallF f/\0<=k/\k < (↑(f.strips.length):Int)->k.toNat < f.strips.length)
  (o6:smallF f/\0<=k/\k < (↑(f.strips.length):Int)->f.length=(stockedF f k.toNat m).length)
  (o7:smallF f/\0<=k/\k < (↑(f.strips.length):Int)->f.slack=(stockedF f k.toNat m).slack)
  (o8:smallF f/\0<=k/\k < (↑(f.strips.length):Int)->f.strips.length=(stockedF f k.toNat m).strips.length)
  (o9:smallF f/\0<=k/\k < (↑(f.strips.length):Int) -> ∀ (i1:Nat),i1 < (stockedF f k.toNat m).strips.length->Decidable.rec (fun (h:¬i1=k.toNat)=>cStrip (stp f i1)) (fun (h:i1=k.toNat)=>[iv (stp f k.toNat).thick,iv m] ++ []) (instDecidableEqNat i1 k.toNat)=cStrip (stp (stockedF f k.toNat m) i1))
  (o10:smallF f/\0<=k/\k < (↑(f.strips.length):Int)->f.pieces.length=(stockedF f k.toNat m).pieces.length)
  (o11:smallF f/\0<=k/\k < (↑(f.strips.length):Int) -> ∀ (i3:Nat),i3 < (stockedF f k.toNat m).pieces.length->cPiece (pc f i3)=cPiece (pc (stockedF f k.toNat m) i3))
  (o12:smallF f/\0<=k/\k < (↑(f.strips.length):Int)->f.columns.length=(stockedF f k.toNat m).columns.length)
  (o13:smallF f/\0<=k/\k < (↑(f.strips.length):Int) -> ∀ (i5:Nat),i5 < (stockedF f k.toNat m).columns.length -> [aInts (col f i5)] = [aInts (col (stockedF f k.toNat m) i5)]) :
  Triple Try.prog 49 (s49 f k m):=by
 refine triple_of Try.func49 rfl Try.call49 T0_ok _ rfl rfl rfl rfl (Nat.le_of_ble_eq_true (by kernel_rfl)) (fun _ _ _ _ h=>h) ?_
 intro hpre C hC _ hE
 obtain ⟨P,w0,E0,av,hA,ro,df⟩:=C
 obtain ⟨rfl,rfl,rfl⟩:=hC
 refine swp_seq ?_
 refine zR [1,2,3,6] [0,8] (Ak 2 tv) ?_
 refine swp_seq ?_
 refine zC ([(1,CallSpec.eq (c49 f k m 24) [true])]) [1,2,6,7] [8,32,24,25,26] (Ak 1 (An (An (An (zr (AV.agg (cFrm f))) tv) (An (t31o (f) (24)) (An hpre.1 (Ak 1 (fun (i0:Env)=>tv))))) (Ak 2 tv))) ?_
 refine swp_seq ?_
 refine zR [1,2,6,7,8] [8,32,88,24,25,26] (Ak 3 (An (An (o0 hpre) (o1 hpre)) (An (An (o2 hpre) tv) (Ak 2 tv)))) ?_
 refine swp_seq ?_
 refine zR [1,6,7,8] [8,32,88,24,25,26] (Ak 3 tv) ?_
 refine swp_seq ?_
 refine zR [6,7] [8,32,24,25,26] (Ak 4 (An (An (o3 hpre) (o4 hpre)) (An (An (o5 hpre) tv) tv))) ?_
 refine swp_seq ?_
 refine zR [6] [8,24,25,26] (Ak 2 tv) ?_
 refine swp_ret ?_
 exact zT [24,25,26] (An (Ak 1 tv) (An (An (An (ci (o6 hpre)) (zr nilN)) (An (An (ci (o7 hpre)) (zr nilN)) (An (An (zr 2) (An (o8 hpre) (fun (i1:Nat)=>(fun (y2:i1 < (stockedF f k.toNat m).strips.length)=>(o9 hpre i1 y2))))) (An (An (zr 3) (An (o10 hpre) (fun (i3:Nat)=>(fun (y4:i3 < (stockedF f k.toNat m).pieces.length)=>(o11 hpre i3 y4))))) (An (An (zr 1) (An (o12 hpre) (fun (i5:Nat)=>(fun (y6:i5 < (stockedF f k.toNat m).columns.length)=>(o13 hpre i5 y6))))) tv))))) (An (zr true) (An (zr true) (zr true)))))
theorem stp_stocked {f:Frm} {k:Nat} (hk:k < f.strips.length) (m:Int) (j:Nat):stp (stockedF f k m) j=if j=k then { stp f k with many:=m } else stp f j:=by
 show (f.strips.set k _).getD j default=_
 rw [List.getD_eq_getElem?_getD,List.getElem?_set]
 by_cases e:k=j
 ·subst e; rw [if_pos rfl,if_pos hk,if_pos rfl]; rfl
 ·rw [if_neg e,if_neg (fun h=>e h.symm),stp,List.getD_eq_getElem?_getD]
theorem t49 (f:Frm) (k m:Int):Triple Try.prog 49 (s49 f k m):=by
 apply w49
 all_goals (rintro ⟨hp,h1,h2⟩)
 case o8=>exact List.length_set.symm
 case o9 =>
  intro i hi
  rw [stp_stocked (by omega)]
  refine rec_ei (fun h => ?_) (fun h => ?_)
  ·rw [if_neg h]
  ·rw [if_pos h]; rfl
 all_goals (first | omega | rfl | (intro i hi; rfl))
theorem w82 
  (o0:60=Frm.length exP)
  (o1:2=Frm.slack exP)
  (o2:∀ (i0:Nat),i0 < exP.strips.length->List.getD [[iv 5,iv 2],[iv 3,iv 2],[iv 18,iv 1]] i0 (TI.za ti65)=cStrip (stp exP i0))
  (o3:∀ (i2:Nat),i2 < exP.pieces.length->List.getD [[iv 20,iv 21,iv 9],[iv 30,iv 30,iv 5],[iv 40,iv 41,iv 7],[iv 12,iv 13,iv 4]] i2 (TI.za ti46)=cPiece (pc exP i2))
  (o4:∀ (i4:Nat),i4 < exP.columns.length->List.getD [[AV.sl 1 2 fun (j:Nat)=>List.getD [[iv 0],[iv 1]] j (TI.za ti3)],[AV.sl 1 2 fun (j:Nat)=>List.getD [[iv 2],[iv 3]] j (TI.za ti3)]] i4 (TI.za ti27) = [aInts (col exP i4)])
  (o5:smallF exP)
  (o6:Frm.length (stockedF exP 1 3)=Frm.length exO)
  (o7:Frm.slack (stockedF exP 1 3)=Frm.slack exO)
  (o8:∀ (i13:Nat),i13 < exO.strips.length->cStrip (stp (stockedF exP 1 3) i13)=cStrip (stp exO i13))
  (o9:∀ (i15:Nat),i15 < exO.pieces.length->cPiece (pc (stockedF exP 1 3) i15)=cPiece (pc exO i15))
  (o10:∀ (i17:Nat),i17 < exO.columns.length -> [aInts (col (stockedF exP 1 3) i17)] = [aInts (col exO i17)]) :
  Triple Try.prog 82 (s82):=by
 refine triple_of Try.func82 rfl Try.call82 T0_ok _ rfl rfl rfl rfl (Nat.le_of_ble_eq_true (by kernel_rfl)) (fun _ _ _ _ h=>h) ?_
 intro _ C hC _ hE
 obtain ⟨P,w0,E0,av,hA,ro,df⟩:=C
 obtain ⟨rfl,rfl,rfl⟩:=hC
 refine swp_seq ?_
 refine zR [0,1] [0,8] (Ak 2 tv) ?_
 refine swp_seq ?_
 refine zR [0,1] [0,8,40,112,136] (Ak 18 tv) ?_
 refine swp_seq ?_
 refine swp_ent (zE (st2:=ASt.mk [(0,AV.ptr 0 []),(1,AV.ptr 8 [])] [(0,OB.cells 26 (cFrm exP)),(8,OB.cells 26 [iv 0,iv 0,nilv,nilv,nilv])] 160) hE [40,112,136] [(0,.same 0),(8,.same 8)] [] [8] (An (An (An (zr (some (Src.same 0))) (zr nilP)) (An (An (zr (some (Src.same 8))) (zr nilP)) tv)) (An (An (An (zr 26) (An (An (An (ci (o0)) (zr nilN)) (An (An (ci (o1)) (zr nilN)) (An (An (zr 2) (An (by decide:3=exP.strips.length) (fun (i0:Nat)=>(fun (y1:i0 < exP.strips.length)=>(o2 i0 y1))))) (An (An (zr 3) (An (by decide:4=exP.pieces.length) (fun (i2:Nat)=>(fun (y3:i2 < exP.pieces.length)=>(o3 i2 y3))))) (An (An (zr 1) (An (by decide:2=exP.columns.length) (fun (i4:Nat)=>(fun (y5:i4 < exP.columns.length)=>(o4 i4 y5))))) tv))))) (zr true))) (An (An (zr (OB.cells 26 [iv 0,iv 0,nilv,nilv,nilv])) (zr true)) tv)) (An (zr true) (zr true))))) ?_
 refine zC ([(2,CallSpec.eq c82 [true,true,true])]) [0,1] [0,8] (Ak 2 (An (An (An (zr (AV.agg (cFrm exP))) (An (zr (iv 1)) (An (zr (iv 3)) tv))) (An (t49 (exP) (1) (3)) (An (An (o5) (An (by decide:Int.ofNat 0<=Int.ofNat 1) (by decide:1 < (↑(exP.strips.length):Int)))) (Ak 1 (fun (i6:Env)=>tv))))) (Ak 2 tv))) ?_
 refine swp_ret ?_
 exact zT [] (An (Ak 2 tv) (An (An (An (An (zr (iv exP.length)) (zr nilN)) (An (An (zr (iv exP.slack)) (zr nilN)) (An (An (zr 2) (An (zr exP.strips.length) (fun (i7:Nat)=>(fun (y8:i7 < exP.strips.length)=>(zr (cStrip (stp exP i7))))))) (An (An (zr 3) (An (zr exP.pieces.length) (fun (i9:Nat)=>(fun (y10:i9 < exP.pieces.length)=>(zr (cPiece (pc exP i9))))))) (An (An (zr 1) (An (zr exP.columns.length) (fun (i11:Nat)=>(fun (y12:i11 < exP.columns.length)=>(zr ([aInts (col exP i11)])))))) tv))))) (An (An (An (ci (o6)) (zr nilN)) (An (An (ci (o7)) (zr nilN)) (An (An (zr 2) (An (by decide:(stockedF exP 1 3).strips.length=exO.strips.length) (fun (i13:Nat)=>(fun (y14:i13 < exO.strips.length)=>(o8 i13 y14))))) (An (An (zr 3) (An (by decide:(stockedF exP 1 3).pieces.length=exO.pieces.length) (fun (i15:Nat)=>(fun (y16:i15 < exO.pieces.length)=>(o9 i15 y16))))) (An (An (zr 1) (An (by decide:(stockedF exP 1 3).columns.length=exO.columns.length) (fun (i17:Nat)=>(fun (y18:i17 < exO.columns.length)=>(o10 i17 y18))))) tv))))) tv)) (An (zr true) (An (zr true) (zr true)))))
theorem small_frm {f:Frm} (h:decide (f.strips.length<=64) && decide (f.pieces.length<=64) && decide (f.columns.length<=64) && f.columns.all (fun c=>decide (c.length<=64))=true):smallF f:=by
 simp only [Bool.and_eq_true,decide_eq_true_eq] at h
 refine ⟨h.1.1.1,h.1.1.2,h.1.2,fun i => ?_⟩
 by_cases hi:i < f.columns.length
 ·have:=idx_all [] h.2 hi
  exact of_decide_eq_true this
 ·have:col f i = []:=getD_ge _ _ (by omega)
  rw [this]; exact Nat.zero_le _
theorem small_exP:smallF exP:=small_frm (by decide)
theorem small_exO:smallF exO:=small_frm (by decide)
theorem sl_ext {sz n:Nat} {f g:Nat->List AV} (h:∀ j,f j=g j):AV.sl sz n f = .sl sz n g:=by rw [funext h]
theorem t82:Triple Try.prog 82 s82:=by
 apply w82
 case o2 =>
  intro i hi
  have:i=0 ∨ i=1 ∨ i=2:=by simp [exP] at hi; omega
  rcases this with rfl | rfl | rfl <;> rfl
 case o3 =>
  intro i hi
  have:i=0 ∨ i=1 ∨ i=2 ∨ i=3:=by simp [exP] at hi; omega
  rcases this with rfl | rfl | rfl | rfl <;> rfl
 case o4 =>
  intro i hi
  have:i=0 ∨ i=1:=by simp [exP] at hi; omega
  rcases this with rfl | rfl
  ·exact congrArg (fun z=>[z]) (sl_ext fun j=>by rcases j with _ | _ | j <;> rfl)
  ·exact congrArg (fun z=>[z]) (sl_ext fun j=>by rcases j with _ | _ | j <;> rfl)
 case o5=>exact small_exP
 all_goals (first | rfl | (intro i hi; rfl) | decide)
theorem t82o (f o:Frm):Triple Try.prog 82 (s82o f o):=⟨t82.1,fun h=>by obtain ⟨rfl,rfl⟩:=h; exact t82.2 trivial⟩
theorem w20 (f:Frm) (o:Frm)
  (o0:f=exP/\o=exO->smallF f)
  (o1:f=exP/\o=exO->smallF o)
  (o2:f=exP/\o=exO->smallF f)
  (o3:f=exP/\o=exO -> ∀ (i4:Nat),i4 < List.length [2,0,0]->List.getD [[iv 2],[iv 0],[iv 0]] i4 (TI.za ti3) = [iv (List.getD [2,0,0] i4 0)])
  (o4:f=exP/\o=exO->smallF o)
  (o5:f=exP/\o=exO->smallF o)
  (o6:f=exP/\o=exO->smallF f)
  (o7:f=exP/\o=exO->(bif bif bif bif bif bif bif decide (roomE f 0=0) then decide (stripsE o=0) else false then decide (refuseE f=0) else false then decide (openF o (fitsG o 0 [2,0,0])=0) else false then decide (growE o 0=0) else false then decide (openF f (gapG f 1 3)=0) else false then decide ((roomR f 0).lo=8) && (decide ((roomR f 0).hi=9) && true) else false then decide (stripsN o=4) else false)=true -> ∀ (i53:Nat),i53 < List.length [3]->List.getD [[iv 3]] i53 (TI.za ti3) = [iv (List.getD [3] i53 0)])
  (o8:f=exP/\o=exO->(bif bif bif bif bif bif bif decide (roomE f 0=0) then decide (stripsE o=0) else false then decide (refuseE f=0) else false then decide (openF o (fitsG o 0 [2,0,0])=0) else false then decide (growE o 0=0) else false then decide (openF f (gapG f 1 3)=0) else false then decide ((roomR f 0).lo=8) && (decide ((roomR f 0).hi=9) && true) else false then decide (stripsN o=4) else false)=true->(refuseL f).length<=big)
  (o9:f=exP/\o=exO->(bif bif bif bif bif bif bif bif bif bif bif decide (roomE f 0=0) then decide (stripsE o=0) else false then decide (refuseE f=0) else false then decide (openF o (fitsG o 0 [2,0,0])=0) else false then decide (growE o 0=0) else false then decide (openF f (gapG f 1 3)=0) else false then decide ((roomR f 0).lo=8) && (decide ((roomR f 0).hi=9) && true) else false then decide (stripsN o=4) else false then sameInts (refuseL f) [3] else false then decide (fitsP o 0 [2,0,0]=3) else false then decide (growN o 0=22) else false then decide ((gapR f 1 3).lo=19) && (decide ((gapR f 1 3).hi=21) && true) else false)=true) :
  Triple Try.prog 20 (sw20 f o):=by
 refine triple_of Try.func20 rfl Try.call20 T0_ok _ rfl rfl rfl rfl (Nat.le_of_ble_eq_true (by kernel_rfl)) (fun _ _ _ _ h=>h) ?_
 intro hpre C hC _ hE
 obtain ⟨P,w0,E0,av,hA,ro,df⟩:=C
 obtain ⟨rfl,rfl,rfl⟩:=hC
 refine swp_seq ?_
 refine zR [] [] (Ak 1 tv) ?_
 refine swp_seq ?_
 refine zC ([(0,CallSpec.eq (c20a f o) [])]) [1,2] [40,48] (An (Ak 1 (An (t82o (f) (o)) (An (An hpre.1 hpre.2) (Ak 1 (fun (i0:Env)=>tv))))) (Ak 7 tv)) ?_
 refine swp_seq ?_
 refine zC ([(1,CallSpec.eq (s22 f 0) [true,true])]) [1,2,3,4] [40,48,112] (Ak 1 (An (An (An (zr (AV.agg (cFrm f))) (An (zr (iv 0)) tv)) (An (t22 (f) (0)) (An (o0 hpre) (Ak 1 (fun (i1:Env)=>tv))))) (Ak 6 tv))) ?_
 refine swp_seq ?_
 refine zC ([(1,CallSpec.eq (s59 o) [true])]) [1,2,3,4,5,6] [40,48,112] (Ak 1 (An (An (An (zr (AV.agg (cFrm o))) tv) (An (t59 (o)) (An (o1 hpre) (Ak 1 (fun (i2:Env)=>tv))))) (Ak 5 tv))) ?_
 refine swp_seq ?_
 refine zC ([(1,CallSpec.eq (s42 f) [true])]) [1,2,3,4,5,6,7,8] [40,48,112] (Ak 1 (An (An (An (zr (AV.agg (cFrm f))) tv) (An (t42 (f)) (An (o2 hpre) (Ak 1 (fun (i3:Env)=>tv))))) (Ak 5 tv))) ?_
 refine swp_seq ?_
 refine zC ([(2,CallSpec.eq (c20b f o) [true,true,false])]) [1,2,3,4,5,6,7,8,9,10] [40,48,112] (Ak 2 (An (An (An (zr (AV.agg (cFrm o))) (An (zr (iv 0)) (An (An (zr 1) (An (zr 3) (fun (i4:Nat)=>(fun (y5:i4 < List.length [2,0,0])=>(o3 hpre i4 y5))))) tv))) (An (t36 (o) (0) ([2,0,0])) (An (An (o4 hpre) (by decide:List.length [2,0,0]<=64)) (Ak 1 (fun (i6:Env)=>tv))))) (Ak 5 tv))) ?_
 refine swp_seq ?_
 refine zC ([(1,CallSpec.eq (s26 o 0) [true,true])]) [1,3,4,5,6,7,8,9,10,11,12] [40,112] (Ak 1 (An (An (An (zr (AV.agg (cFrm o))) (An (zr (iv 0)) tv)) (An (t26 (o) (0)) (An (o5 hpre) (Ak 1 (fun (i7:Env)=>tv))))) (Ak 5 tv))) ?_
 refine swp_seq ?_
 refine zC ([(1,CallSpec.eq (s48 f 1 3) [true,true,true])]) [3,4,5,6,7,8,9,10,11,12,13,14] [112,408] (Ak 1 (An (An (An (zr (AV.agg (cFrm f))) (An (zr (iv 1)) (An (zr (iv 3)) tv))) (An (t48 (f) (1) (3)) (An (o6 hpre) (Ak 1 (fun (i8:Env)=>tv))))) (Ak 6 tv))) ?_
 refine swp_seq ?_
 refine zC ([(34,CallSpec.eq (c20c f o) [false,false])]) [0] [] (Ak 3 (An (fun (y9:decide (roomE f 0=0)=true)=>(An (Ak 1 tv) tv)) (An (fun (y10:decide (roomE f 0=0)=true)=>(An (An (fun (y11:decide (roomE f 0=0)=true)=>y10) (Ak 1 tv)) tv)) (An (An (fun (y12:decide (roomE f 0=0)=true)=>y12) (fun (y13:decide (roomE f 0=0)=false)=>tv)) (Ak 1 (An (fun (y14:(bif decide (roomE f 0=0) then decide (stripsE o=0) else false)=true)=>(An (Ak 1 tv) tv)) (An (fun (y15:(bif decide (roomE f 0=0) then decide (stripsE o=0) else false)=true)=>(An (An (fun (y16:(bif decide (roomE f 0=0) then decide (stripsE o=0) else false)=true)=>y15) (Ak 1 tv)) tv)) (An (An (fun (y17:(bif decide (roomE f 0=0) then decide (stripsE o=0) else false)=true)=>y17) (fun (y18:(bif decide (roomE f 0=0) then decide (stripsE o=0) else false)=false)=>tv)) (Ak 1 (An (fun (y19:(bif bif decide (roomE f 0=0) then decide (stripsE o=0) else false then decide (refuseE f=0) else false)=true)=>(An (Ak 1 tv) tv)) (An (fun (y20:(bif bif decide (roomE f 0=0) then decide (stripsE o=0) else false then decide (refuseE f=0) else false)=true)=>(An (An (fun (y21:(bif bif decide (roomE f 0=0) then decide (stripsE o=0) else false then decide (refuseE f=0) else false)=true)=>y20) (Ak 1 tv)) tv)) (An (An (fun (y22:(bif bif decide (roomE f 0=0) then decide (stripsE o=0) else false then decide (refuseE f=0) else false)=true)=>y22) (fun (y23:(bif bif decide (roomE f 0=0) then decide (stripsE o=0) else false then decide (refuseE f=0) else false)=false)=>tv)) (Ak 1 (An (fun (y24:(bif bif bif decide (roomE f 0=0) then decide (stripsE o=0) else false then decide (refuseE f=0) else false then decide (openF o (fitsG o 0 [2,0,0])=0) else false)=true)=>(An (Ak 1 tv) tv)) (An (fun (y25:(bif bif bif decide (roomE f 0=0) then decide (stripsE o=0) else false then decide (refuseE f=0) else false then decide (openF o (fitsG o 0 [2,0,0])=0) else false)=true)=>(An (An (fun (y26:(bif bif bif decide (roomE f 0=0) then decide (stripsE o=0) else false then decide (refuseE f=0) else false then decide (openF o (fitsG o 0 [2,0,0])=0) else false)=true)=>y25) (Ak 1 tv)) tv)) (An (An (fun (y27:(bif bif bif decide (roomE f 0=0) then decide (stripsE o=0) else false then decide (refuseE f=0) else false then decide (openF o (fitsG o 0 [2,0,0])=0) else false)=true)=>y27) (fun (y28:(bif bif bif decide (roomE f 0=0) then decide (stripsE o=0) else false then decide (refuseE f=0) else false then decide (openF o (fitsG o 0 [2,0,0])=0) else false)=false)=>tv)) (Ak 1 (An (fun (y29:(bif bif bif bif decide (roomE f 0=0) then decide (stripsE o=0) else false then decide (refuseE f=0) else false then decide (openF o (fitsG o 0 [2,0,0])=0) else false then decide (growE o 0=0) else false)=true)=>(An (Ak 1 tv) tv)) (An (fun (y30:(bif bif bif bif decide (roomE f 0=0) then decide (stripsE o=0) else false then decide (refuseE f=0) else false then decide (openF o (fitsG o 0 [2,0,0])=0) else false then decide (growE o 0=0) else false)=true)=>(An (An (fun (y31:(bif bif bif bif decide (roomE f 0=0) then decide (stripsE o=0) else false then decide (refuseE f=0) else false then decide (openF o (fitsG o 0 [2,0,0])=0) else false then decide (growE o 0=0) else false)=true)=>y30) (Ak 1 tv)) tv)) (An (An (fun (y32:(bif bif bif bif decide (roomE f 0=0) then decide (stripsE o=0) else false then decide (refuseE f=0) else false then decide (openF o (fitsG o 0 [2,0,0])=0) else false then decide (growE o 0=0) else false)=true)=>y32) (fun (y33:(bif bif bif bif decide (roomE f 0=0) then decide (stripsE o=0) else false then decide (refuseE f=0) else false then decide (openF o (fitsG o 0 [2,0,0])=0) else false then decide (growE o 0=0) else false)=false)=>tv)) (Ak 1 (An (fun (y34:(bif bif bif bif bif decide (roomE f 0=0) then decide (stripsE o=0) else false then decide (refuseE f=0) else false then decide (openF o (fitsG o 0 [2,0,0])=0) else false then decide (growE o 0=0) else false then decide (openF f (gapG f 1 3)=0) else false)=true)=>(An (Ak 1 tv) tv)) (An (fun (y35:(bif bif bif bif bif decide (roomE f 0=0) then decide (stripsE o=0) else false then decide (refuseE f=0) else false then decide (openF o (fitsG o 0 [2,0,0])=0) else false then decide (growE o 0=0) else false then decide (openF f (gapG f 1 3)=0) else false)=true)=>(An (Ak 2 tv) tv)) (An (fun (y36:(bif bif bif bif bif decide (roomE f 0=0) then decide (stripsE o=0) else false then decide (refuseE f=0) else false then decide (openF o (fitsG o 0 [2,0,0])=0) else false then decide (growE o 0=0) else false then decide (openF f (gapG f 1 3)=0) else false)=true)=>(An (An (fun (y37:(bif bif bif bif bif decide (roomE f 0=0) then decide (stripsE o=0) else false then decide (refuseE f=0) else false then decide (openF o (fitsG o 0 [2,0,0])=0) else false then decide (growE o 0=0) else false then decide (openF f (gapG f 1 3)=0) else false)=true)=>y36) (An (fun (y38:(bif bif bif bif bif decide (roomE f 0=0) then decide (stripsE o=0) else false then decide (refuseE f=0) else false then decide (openF o (fitsG o 0 [2,0,0])=0) else false then decide (growE o 0=0) else false then decide (openF f (gapG f 1 3)=0) else false)=true)=>y36) tv)) tv)) (An (An (fun (y39:(bif bif bif bif bif decide (roomE f 0=0) then decide (stripsE o=0) else false then decide (refuseE f=0) else false then decide (openF o (fitsG o 0 [2,0,0])=0) else false then decide (growE o 0=0) else false then decide (openF f (gapG f 1 3)=0) else false)=true)=>y39) (fun (y40:(bif bif bif bif bif decide (roomE f 0=0) then decide (stripsE o=0) else false then decide (refuseE f=0) else false then decide (openF o (fitsG o 0 [2,0,0])=0) else false then decide (growE o 0=0) else false then decide (openF f (gapG f 1 3)=0) else false)=false)=>tv)) (Ak 1 (An (fun (y41:(bif bif bif bif bif bif decide (roomE f 0=0) then decide (stripsE o=0) else false then decide (refuseE f=0) else false then decide (openF o (fitsG o 0 [2,0,0])=0) else false then decide (growE o 0=0) else false then decide (openF f (gapG f 1 3)=0) else false then decide ((roomR f 0).lo=8) && (decide ((roomR f 0).hi=9) && true) else false)=true)=>(An (Ak 1 tv) tv)) (An (fun (y42:(bif bif bif bif bif bif decide (roomE f 0=0) then decide (stripsE o=0) else false then decide (refuseE f=0) else false then decide (openF o (fitsG o 0 [2,0,0])=0) else false then decide (growE o 0=0) else false then decide (openF f (gapG f 1 3)=0) else false then decide ((roomR f 0).lo=8) && (decide ((roomR f 0).hi=9) && true) else false)=true)=>(An (An (fun (y43:(bif bif bif bif bif bif decide (roomE f 0=0) then decide (stripsE o=0) else false then decide (refuseE f=0) else false then decide (openF o (fitsG o 0 [2,0,0])=0) else false then decide (growE o 0=0) else false then decide (openF f (gapG f 1 3)=0) else false then decide ((roomR f 0).lo=8) && (decide ((roomR f 0).hi=9) && true) else false)=true)=>y42) (Ak 1 tv)) tv)) (An (An (fun (y44:(bif bif bif bif bif bif decide (roomE f 0=0) then decide (stripsE o=0) else false then decide (refuseE f=0) else false then decide (openF o (fitsG o 0 [2,0,0])=0) else false then decide (growE o 0=0) else false then decide (openF f (gapG f 1 3)=0) else false then decide ((roomR f 0).lo=8) && (decide ((roomR f 0).hi=9) && true) else false)=true)=>y44) (fun (y45:(bif bif bif bif bif bif decide (roomE f 0=0) then decide (stripsE o=0) else false then decide (refuseE f=0) else false then decide (openF o (fitsG o 0 [2,0,0])=0) else false then decide (growE o 0=0) else false then decide (openF f (gapG f 1 3)=0) else false then decide ((roomR f 0).lo=8) && (decide ((roomR f 0).hi=9) && true) else false)=false)=>tv)) (Ak 1 (An (fun (y46:(bif bif bif bif bif bif bif decide (roomE f 0=0) then decide (stripsE o=0) else false then decide (refuseE f=0) else false then decide (openF o (fitsG o 0 [2,0,0])=0) else false then decide (growE o 0=0) else false then decide (openF f (gapG f 1 3)=0) else false then decide ((roomR f 0).lo=8) && (decide ((roomR f 0).hi=9) && true) else false then decide (stripsN o=4) else false)=true)=>(An (Ak 1 tv) tv)) (An (fun (y47:(bif bif bif bif bif bif bif decide (roomE f 0=0) then decide (stripsE o=0) else false then decide (refuseE f=0) else false then decide (openF o (fitsG o 0 [2,0,0])=0) else false then decide (growE o 0=0) else false then decide (openF f (gapG f 1 3)=0) else false then decide ((roomR f 0).lo=8) && (decide ((roomR f 0).hi=9) && true) else false then decide (stripsN o=4) else false)=true)=>(An (Ak 1 tv) tv)) (An (fun (y48:(bif bif bif bif bif bif bif decide (roomE f 0=0) then decide (stripsE o=0) else false then decide (refuseE f=0) else false then decide (openF o (fitsG o 0 [2,0,0])=0) else false then decide (growE o 0=0) else false then decide (openF f (gapG f 1 3)=0) else false then decide ((roomR f 0).lo=8) && (decide ((roomR f 0).hi=9) && true) else false then decide (stripsN o=4) else false)=true)=>(An (Ak 1 (An (fun (y49:(bif bif bif bif bif bif bif decide (roomE f 0=0) then decide (stripsE o=0) else false then decide (refuseE f=0) else false then decide (openF o (fitsG o 0 [2,0,0])=0) else false then decide (growE o 0=0) else false then decide (openF f (gapG f 1 3)=0) else false then decide ((roomR f 0).lo=8) && (decide ((roomR f 0).hi=9) && true) else false then decide (stripsN o=4) else false)=true)=>y48) (An (fun (y50:(bif bif bif bif bif bif bif decide (roomE f 0=0) then decide (stripsE o=0) else false then decide (refuseE f=0) else false then decide (openF o (fitsG o 0 [2,0,0])=0) else false then decide (growE o 0=0) else false then decide (openF f (gapG f 1 3)=0) else false then decide ((roomR f 0).lo=8) && (decide ((roomR f 0).hi=9) && true) else false then decide (stripsN o=4) else false)=true)=>y48) tv))) (An (An (An (zr 1) (An (zr (refuseL f).length) (fun (i51:Nat)=>(fun (y52:i51 < (refuseL f).length)=>(zr ([iv ((refuseL f).getD i51 0)])))))) (An (An (zr 1) (An (zr 1) (fun (i53:Nat)=>(fun (y54:i53 < List.length [3])=>(o7 hpre y48 i53 y54))))) tv)) (An (t40 (refuseL f) ([3])) (An (o8 hpre y48) (Ak 1 (fun (i55:Env)=>tv))))))) (An (An (fun (y56:(bif bif bif bif bif bif bif decide (roomE f 0=0) then decide (stripsE o=0) else false then decide (refuseE f=0) else false then decide (openF o (fitsG o 0 [2,0,0])=0) else false then decide (growE o 0=0) else false then decide (openF f (gapG f 1 3)=0) else false then decide ((roomR f 0).lo=8) && (decide ((roomR f 0).hi=9) && true) else false then decide (stripsN o=4) else false)=true)=>y56) (fun (y57:(bif bif bif bif bif bif bif decide (roomE f 0=0) then decide (stripsE o=0) else false then decide (refuseE f=0) else false then decide (openF o (fitsG o 0 [2,0,0])=0) else false then decide (growE o 0=0) else false then decide (openF f (gapG f 1 3)=0) else false then decide ((roomR f 0).lo=8) && (decide ((roomR f 0).hi=9) && true) else false then decide (stripsN o=4) else false)=false)=>tv)) (Ak 1 (An (fun (y58:(bif bif bif bif bif bif bif bif decide (roomE f 0=0) then decide (stripsE o=0) else false then decide (refuseE f=0) else false then decide (openF o (fitsG o 0 [2,0,0])=0) else false then decide (growE o 0=0) else false then decide (openF f (gapG f 1 3)=0) else false then decide ((roomR f 0).lo=8) && (decide ((roomR f 0).hi=9) && true) else false then decide (stripsN o=4) else false then sameInts (refuseL f) [3] else false)=true)=>(An (Ak 1 tv) tv)) (An (fun (y59:(bif bif bif bif bif bif bif bif decide (roomE f 0=0) then decide (stripsE o=0) else false then decide (refuseE f=0) else false then decide (openF o (fitsG o 0 [2,0,0])=0) else false then decide (growE o 0=0) else false then decide (openF f (gapG f 1 3)=0) else false then decide ((roomR f 0).lo=8) && (decide ((roomR f 0).hi=9) && true) else false then decide (stripsN o=4) else false then sameInts (refuseL f) [3] else false)=true)=>(An (An (fun (y60:(bif bif bif bif bif bif bif bif decide (roomE f 0=0) then decide (stripsE o=0) else false then decide (refuseE f=0) else false then decide (openF o (fitsG o 0 [2,0,0])=0) else false then decide (growE o 0=0) else false then decide (openF f (gapG f 1 3)=0) else false then decide ((roomR f 0).lo=8) && (decide ((roomR f 0).hi=9) && true) else false then decide (stripsN o=4) else false then sameInts (refuseL f) [3] else false)=true)=>y59) (Ak 1 tv)) tv)) (An (An (fun (y61:(bif bif bif bif bif bif bif bif decide (roomE f 0=0) then decide (stripsE o=0) else false then decide (refuseE f=0) else false then decide (openF o (fitsG o 0 [2,0,0])=0) else false then decide (growE o 0=0) else false then decide (openF f (gapG f 1 3)=0) else false then decide ((roomR f 0).lo=8) && (decide ((roomR f 0).hi=9) && true) else false then decide (stripsN o=4) else false then sameInts (refuseL f) [3] else false)=true)=>y61) (fun (y62:(bif bif bif bif bif bif bif bif decide (roomE f 0=0) then decide (stripsE o=0) else false then decide (refuseE f=0) else false then decide (openF o (fitsG o 0 [2,0,0])=0) else false then decide (growE o 0=0) else false then decide (openF f (gapG f 1 3)=0) else false then decide ((roomR f 0).lo=8) && (decide ((roomR f 0).hi=9) && true) else false then decide (stripsN o=4) else false then sameInts (refuseL f) [3] else false)=false)=>tv)) (Ak 1 (An (fun (y63:(bif bif bif bif bif bif bif bif bif decide (roomE f 0=0) then decide (stripsE o=0) else false then decide (refuseE f=0) else false then decide (openF o (fitsG o 0 [2,0,0])=0) else false then decide (growE o 0=0) else false then decide (openF f (gapG f 1 3)=0) else false then decide ((roomR f 0).lo=8) && (decide ((roomR f 0).hi=9) && true) else false then decide (stripsN o=4) else false then sameInts (refuseL f) [3] else false then decide (fitsP o 0 [2,0,0]=3) else false)=true)=>(An (Ak 1 tv) tv)) (An (fun (y64:(bif bif bif bif bif bif bif bif bif decide (roomE f 0=0) then decide (stripsE o=0) else false then decide (refuseE f=0) else false then decide (openF o (fitsG o 0 [2,0,0])=0) else false then decide (growE o 0=0) else false then decide (openF f (gapG f 1 3)=0) else false then decide ((roomR f 0).lo=8) && (decide ((roomR f 0).hi=9) && true) else false then decide (stripsN o=4) else false then sameInts (refuseL f) [3] else false then decide (fitsP o 0 [2,0,0]=3) else false)=true)=>(An (An (fun (y65:(bif bif bif bif bif bif bif bif bif decide (roomE f 0=0) then decide (stripsE o=0) else false then decide (refuseE f=0) else false then decide (openF o (fitsG o 0 [2,0,0])=0) else false then decide (growE o 0=0) else false then decide (openF f (gapG f 1 3)=0) else false then decide ((roomR f 0).lo=8) && (decide ((roomR f 0).hi=9) && true) else false then decide (stripsN o=4) else false then sameInts (refuseL f) [3] else false then decide (fitsP o 0 [2,0,0]=3) else false)=true)=>y64) (Ak 1 tv)) tv)) (An (An (fun (y66:(bif bif bif bif bif bif bif bif bif decide (roomE f 0=0) then decide (stripsE o=0) else false then decide (refuseE f=0) else false then decide (openF o (fitsG o 0 [2,0,0])=0) else false then decide (growE o 0=0) else false then decide (openF f (gapG f 1 3)=0) else false then decide ((roomR f 0).lo=8) && (decide ((roomR f 0).hi=9) && true) else false then decide (stripsN o=4) else false then sameInts (refuseL f) [3] else false then decide (fitsP o 0 [2,0,0]=3) else false)=true)=>y66) (fun (y67:(bif bif bif bif bif bif bif bif bif decide (roomE f 0=0) then decide (stripsE o=0) else false then decide (refuseE f=0) else false then decide (openF o (fitsG o 0 [2,0,0])=0) else false then decide (growE o 0=0) else false then decide (openF f (gapG f 1 3)=0) else false then decide ((roomR f 0).lo=8) && (decide ((roomR f 0).hi=9) && true) else false then decide (stripsN o=4) else false then sameInts (refuseL f) [3] else false then decide (fitsP o 0 [2,0,0]=3) else false)=false)=>tv)) (Ak 1 (An (fun (y68:(bif bif bif bif bif bif bif bif bif bif decide (roomE f 0=0) then decide (stripsE o=0) else false then decide (refuseE f=0) else false then decide (openF o (fitsG o 0 [2,0,0])=0) else false then decide (growE o 0=0) else false then decide (openF f (gapG f 1 3)=0) else false then decide ((roomR f 0).lo=8) && (decide ((roomR f 0).hi=9) && true) else false then decide (stripsN o=4) else false then sameInts (refuseL f) [3] else false then decide (fitsP o 0 [2,0,0]=3) else false then decide (growN o 0=22) else false)=true)=>(An (Ak 1 tv) tv)) (An (fun (y69:(bif bif bif bif bif bif bif bif bif bif decide (roomE f 0=0) then decide (stripsE o=0) else false then decide (refuseE f=0) else false then decide (openF o (fitsG o 0 [2,0,0])=0) else false then decide (growE o 0=0) else false then decide (openF f (gapG f 1 3)=0) else false then decide ((roomR f 0).lo=8) && (decide ((roomR f 0).hi=9) && true) else false then decide (stripsN o=4) else false then sameInts (refuseL f) [3] else false then decide (fitsP o 0 [2,0,0]=3) else false then decide (growN o 0=22) else false)=true)=>(An (Ak 2 tv) tv)) (An (fun (y70:(bif bif bif bif bif bif bif bif bif bif decide (roomE f 0=0) then decide (stripsE o=0) else false then decide (refuseE f=0) else false then decide (openF o (fitsG o 0 [2,0,0])=0) else false then decide (growE o 0=0) else false then decide (openF f (gapG f 1 3)=0) else false then decide ((roomR f 0).lo=8) && (decide ((roomR f 0).hi=9) && true) else false then decide (stripsN o=4) else false then sameInts (refuseL f) [3] else false then decide (fitsP o 0 [2,0,0]=3) else false then decide (growN o 0=22) else false)=true)=>(An (An (fun (y71:(bif bif bif bif bif bif bif bif bif bif decide (roomE f 0=0) then decide (stripsE o=0) else false then decide (refuseE f=0) else false then decide (openF o (fitsG o 0 [2,0,0])=0) else false then decide (growE o 0=0) else false then decide (openF f (gapG f 1 3)=0) else false then decide ((roomR f 0).lo=8) && (decide ((roomR f 0).hi=9) && true) else false then decide (stripsN o=4) else false then sameInts (refuseL f) [3] else false then decide (fitsP o 0 [2,0,0]=3) else false then decide (growN o 0=22) else false)=true)=>y70) (An (fun (y72:(bif bif bif bif bif bif bif bif bif bif decide (roomE f 0=0) then decide (stripsE o=0) else false then decide (refuseE f=0) else false then decide (openF o (fitsG o 0 [2,0,0])=0) else false then decide (growE o 0=0) else false then decide (openF f (gapG f 1 3)=0) else false then decide ((roomR f 0).lo=8) && (decide ((roomR f 0).hi=9) && true) else false then decide (stripsN o=4) else false then sameInts (refuseL f) [3] else false then decide (fitsP o 0 [2,0,0]=3) else false then decide (growN o 0=22) else false)=true)=>y70) tv)) tv)) (An (An (fun (y73:(bif bif bif bif bif bif bif bif bif bif decide (roomE f 0=0) then decide (stripsE o=0) else false then decide (refuseE f=0) else false then decide (openF o (fitsG o 0 [2,0,0])=0) else false then decide (growE o 0=0) else false then decide (openF f (gapG f 1 3)=0) else false then decide ((roomR f 0).lo=8) && (decide ((roomR f 0).hi=9) && true) else false then decide (stripsN o=4) else false then sameInts (refuseL f) [3] else false then decide (fitsP o 0 [2,0,0]=3) else false then decide (growN o 0=22) else false)=true)=>y73) (fun (y74:(bif bif bif bif bif bif bif bif bif bif decide (roomE f 0=0) then decide (stripsE o=0) else false then decide (refuseE f=0) else false then decide (openF o (fitsG o 0 [2,0,0])=0) else false then decide (growE o 0=0) else false then decide (openF f (gapG f 1 3)=0) else false then decide ((roomR f 0).lo=8) && (decide ((roomR f 0).hi=9) && true) else false then decide (stripsN o=4) else false then sameInts (refuseL f) [3] else false then decide (fitsP o 0 [2,0,0]=3) else false then decide (growN o 0=22) else false)=false)=>tv)) (Ak 1 tv)))))))))))))))))))))))))))))))))))))))))))))))) ?_
 refine swp_ret ?_
 exact zT [] (An (Ak 1 tv) (An (An (cb (o9 hpre)) (zr nilN)) (An (zr true) (An (zr true) (zr true)))))
set_option maxRecDepth 4000
theorem x_room:roomR exP 0=⟨8,9⟩/\roomE exP 0=0:=by decide +kernel
theorem x_strips:stripsN exO=4/\stripsE exO=0:=by decide +kernel
theorem x_ref:refuseL exP = [3]/\refuseE exP=0:=by decide +kernel
theorem x_fits:fitsP exO 0 [2,0,0]=3/\openF exO (fitsG exO 0 [2,0,0])=0:=by decide +kernel
theorem x_grow:growN exO 0=22/\growE exO 0=0:=by decide +kernel
theorem x_gap:gapR exP 1 3=⟨19,21⟩/\openF exP (gapG exP 1 3)=0:=by decide +kernel
theorem tw20 (f o:Frm):Triple Try.prog 20 (sw20 f o):=by
 apply w20
 all_goals (rintro ⟨rfl,rfl⟩)
 case o3 =>
  intro i hi
  have:i=0 ∨ i=1 ∨ i=2:=by simp at hi; omega
  rcases this with rfl | rfl | rfl <;> rfl
 case o7 =>
  intro _ i hi
  have:i=0:=by simpa using hi
  subst this; rfl
 case o8=>intro _; decide
 case o9 =>
  obtain ⟨a1,a2⟩:=x_room
  obtain ⟨b1,b2⟩:=x_strips
  obtain ⟨c1,c2⟩:=x_ref
  obtain ⟨d1,d2⟩:=x_fits
  obtain ⟨e1,e2⟩:=x_grow
  obtain ⟨g1,g2⟩:=x_gap
  rw [a1,a2,b1,b2,c1,c2,d1,d2,e1,e2,g1,g2]; (repeat intro _); rfl
 all_goals (first | exact small_exP | exact small_exO | skip)
theorem t20:Triple Try.prog 20 s20:=⟨(tw20 exP exO).1,fun _=>(tw20 exP exO).2 ⟨rfl,rfl⟩⟩
theorem sound_small {f:Frm} (h:Sound f):smallF f:=by
 have h1:=h.strips
 have h2:=h.pieces
 have h3:=h.columns
 exact ⟨by omega,by omega,by omega,fun i=>by have:=h.colLen i; omega⟩
theorem ready_ok {f:Frm} (h:readyF f=true):okFrm f=true/\Sound f/\smallF f:=by
 unfold readyF at h
 rw [Bool.and_eq_true] at h
 have:=sound_of h.2
 exact ⟨h.2,this,sound_small this⟩
theorem nbor {a b:Bool} (h:(bif !a then true else !b)=false):a=true/\b=true:=by cases a <;> cases b <;> first | exact ⟨rfl,rfl⟩ | cases h
end Go.Ab
namespace Go.Sh
open Go.Ab
variable {f:Frm}
theorem pence_take (f:Frm) (l:List Int) {k:Nat} (h:k < l.length):penceP f (l.take (k + 1))=penceP f (l.take k) + (pc f (l.getD k 0).toNat).pence:=by
 unfold penceP; rw [take_succ _ 0 h,List.foldl_append]; rfl
theorem pence_bound (hs:Sound f) {l:List Int} (hl:goodL f l):∀ k,k<=l.length->0<=penceP f (l.take k)/\penceP f (l.take k)<=99 * k:=by
 intro k
 induction k with
 | zero=>intro _; exact ⟨Int.le_refl _,Int.le_refl _⟩
 | succ k ih =>
  intro h
  have h1:=ih (by omega)
  have h2:=hl.2 k (by omega)
  have h3:=hs.piece (l.getD k 0).toNat (by omega)
  rw [pence_take f l (by omega)]
  omega
end Go.Sh
namespace Go.Sh
open Go.Ab
variable {f:Frm}
end Go.Sh
namespace Go.Sh
end Go.Sh
namespace Go.Ab
open Go Go.RowKit Go.Proofs Go.Sh Go.En
def s107 (f:Frm):CallSpec:={ args:=[vFrm f],res:=aInts (stockTo f f.strips.length),pre:=Sound f }
def h107 (f:Frm):Hint:={ X:=Nat,M:=fun n=>[(3,.vec 5000),(4,iv n)],H:=fun n=>[(5000,.vec 3 1 n (fun i=>[iv ((stockTo f n).getD i 0)]))],I:=fun n=>n<=f.strips.length,mu:=fun n=>f.strips.length - n,x0:=(0:Nat),nx:=fun n=>n + 1 }
abbrev hC (f:Frm) (c:Int):Span:=highP f (col f c.toNat)
def s52 (f:Frm) (l:List Int):CallSpec:={ args:=[vFrm f,aInts l],res:=iv (penceP f l),pre:=Sound f/\goodL f l }
def h52 (f:Frm) (l:List Int):Hint:={ X:=Nat,M:=fun i=>[(5,iv (penceP f (l.take i))),(6,iv i)],I:=fun i=>i<=l.length,mu:=fun i=>l.length - i,x0:=(0:Nat),nx:=fun i=>i + 1 }
def s50 (f:Frm):CallSpec:={ args:=[vFrm f],res := .tup [iv (lostV f),bv true],pre:=okFrm f=true }
end Go.Ab
namespace Go.Ab
open Go Go.RowKit Go.Proofs Go.Sh Go.En
theorem w107 (f:Frm)
  (o0:Sound f->0=(↑0:Int))
  (o1:Sound f->0<=List.length (Frm.strips f))
  (o2:Sound f -> ∀ (x0:Nat),x0<=f.strips.length->decide ((x0:Int) < (↑(f.strips.length):Int))=true->0<=(x0:Int))
  (o3:Sound f -> ∀ (x0:Nat),x0<=f.strips.length->decide ((x0:Int) < (↑(f.strips.length):Int))=true->(x0:Int) < (↑(f.strips.length):Int))
  (o4:Sound f -> ∀ (x0:Nat),x0<=f.strips.length->decide ((x0:Int) < (↑(f.strips.length):Int))=true->x0 + 1<=65536)
  (o5:Sound f -> ∀ (x0:Nat),x0<=f.strips.length->decide ((x0:Int) < (↑(f.strips.length):Int))=true->inI ((x0:Int) + 1))
  (o6:Sound f -> ∀ (x0:Nat),x0<=f.strips.length->decide ((x0:Int) < (↑(f.strips.length):Int))=true->(x0:Int) + 1=(↑(x0 + 1):Int))
  (o7:Sound f -> ∀ (x0:Nat),x0<=f.strips.length->decide ((x0:Int) < (↑(f.strips.length):Int))=true -> ∀ (i2:Nat),i2 < x0 + 1->catF x0 (fun (i:Nat)=>[iv ((stockTo f x0).getD i 0)]) (fun (j:Nat)=>List.getD [[iv (stp f x0).many]] j (TI.za ti3)) i2 = [iv ((stockTo f (x0 + 1)).getD i2 0)])
  (o8:Sound f -> ∀ (x0:Nat),x0<=f.strips.length->decide ((x0:Int) < (↑(f.strips.length):Int))=true->x0 + 1<=f.strips.length)
  (o9:Sound f -> ∀ (x0:Nat),x0<=f.strips.length->decide ((x0:Int) < (↑(f.strips.length):Int))=true->f.strips.length - (x0 + 1) < f.strips.length - x0)
  (o10:Sound f -> ∀ (x0:Nat),x0<=f.strips.length->decide ((x0:Int) < (↑(f.strips.length):Int))=false->x0=(stockTo f f.strips.length).length)
  (o11:Sound f -> ∀ (x0:Nat),x0<=f.strips.length->decide ((x0:Int) < (↑(f.strips.length):Int))=false -> ∀ (i4:Nat),i4 < (stockTo f f.strips.length).length -> [iv ((stockTo f x0).getD i4 0)] = [iv ((stockTo f f.strips.length).getD i4 0)]) :
  Triple Try.prog 107 (s107 f):=by
 refine triple_of Try.func107 rfl Try.call107 T0_ok _ rfl rfl rfl rfl (Nat.le_of_ble_eq_true (by kernel_rfl)) (fun _ _ _ _ h=>h) ?_
 intro hpre C hC _ hE
 obtain ⟨P,w0,E0,av,hA,ro,df⟩:=C
 obtain ⟨rfl,rfl,rfl⟩:=hC
 refine swp_seq ?_
 refine zR [1] [0] (Ak 2 tv) ?_
 refine swp_seq ?_
 refine zR [1,3] [0] (Ak 1 tv) ?_
 refine swp_seq ?_
 refine swp_seq ?_
 refine zR [1,3,4] [0] (Ak 1 tv) ?_
 refine swp_block ?_
 refine zL (Hint.ann (h107 f) [(1,AV.ptr 0 [])] [(0,OB.cells 26 (cFrm f))] 10032) (zE hE [] [(0,.same 0),(5000,.nil)] [] [0] (An (An (An (zr (some (Src.same 0))) (zr nilP)) (An (zr (some Src.nil)) (An (An (ci (o0 hpre)) (zr nilN)) tv))) (An (An (An (zr (OB.cells 26 (cFrm f))) (zr true)) (An (zr 0) tv)) (An (zr true) (zr true))))) (o1 hpre) (fun (x0:Nat) hx0 => ?_)
 refine swp_seq ?_
 refine swp_seq ?_
 refine zR [1,3,4,9] [0,5000] (Ak 5 tv) ?_
 refine zI (decide ((x0:Int) < (↑(f.strips.length):Int))) (fun y1 => ?_) (fun y1 => ?_)
 ·refine swp_skip ?_
  refine swp_seq ?_
  refine swp_block ?_
  refine zR [1,3,4] [0,10136] (Ak 4 (An (An (o2 hpre x0 hx0 y1) (o3 hpre x0 hx0 y1)) (Ak 3 (An (o4 hpre x0 hx0 y1) (Ak 1 tv))))) ?_
  refine zR [1,3,4] [0,10136] (Ak 1 (An (o5 hpre x0 hx0 y1) (Ak 1 tv))) ?_
  exact zn (zE hE [] [(0,.same 0),(5000,.same 10136)] [] [0] (An (An (An (zr (some (Src.same 0))) (zr nilP)) (An (zr (some (Src.same 10136))) (An (An (ci (o6 hpre x0 hx0 y1)) (zr nilN)) tv))) (An (An (An (zr (OB.cells 26 (cFrm f))) (zr true)) (An (An (zr 3) (An (zr 1) (An (zr (x0 + 1)) (fun (i2:Nat)=>(fun (y3:i2 < x0 + 1)=>(o7 hpre x0 hx0 y1 i2 y3)))))) tv)) (An (zr true) (zr true))))) (o8 hpre x0 hx0 y1) (o9 hpre x0 hx0 y1)
 ·refine swp_exit ?_
  refine swp_seq ?_
  refine zR [2] [5000] (Ak 2 tv) ?_
  refine swp_ret ?_
  exact zT [5000] (An (Ak 1 tv) (An (An (zr 1) (An (o10 hpre x0 hx0 y1) (fun (i4:Nat)=>(fun (y5:i4 < (stockTo f f.strips.length).length)=>(o11 hpre x0 hx0 y1 i4 y5))))) (An (zr true) (An (zr true) (zr true)))))
theorem t107 (f:Frm):Triple Try.prog 107 (s107 f):=by
 apply w107
 all_goals (intro hs; have hl:=hs.strips)
 case o0=>rfl
 case o1=>omega
 all_goals (intro x hx h; simp only [decide_eq_true_eq,decide_eq_false_iff_not] at h)
 case o7=>intro i hi; rw [stock_succ]; exact catF_one _ _ 0 (fun z=>[iv z]) (stock_len _ _).symm (fun _ _=>rfl) rfl (by rw [stock_len]; exact hi)
 case o10=>rw [stock_len]; omega
 case o11=>intro i hi; rw [show x=f.strips.length by omega]
 all_goals (first | omega | (simp only [inI]; omega))
theorem w52 (f:Frm) (l:List Int)
  (o0:Sound f/\goodL f l->0=penceP f (List.take 0 l))
  (o1:Sound f/\goodL f l->0=(↑0:Int))
  (o2:Sound f/\goodL f l->0<=List.length l)
  (o3:Sound f/\goodL f l -> ∀ (x0:Nat),x0<=l.length->decide ((x0:Int) < (↑(l.length):Int))=true->0<=(x0:Int))
  (o4:Sound f/\goodL f l -> ∀ (x0:Nat),x0<=l.length->decide ((x0:Int) < (↑(l.length):Int))=true->(x0:Int) < (↑(l.length):Int))
  (o5:Sound f/\goodL f l -> ∀ (x0:Nat),x0<=l.length->decide ((x0:Int) < (↑(l.length):Int))=true->0<=l.getD x0 0)
  (o6:Sound f/\goodL f l -> ∀ (x0:Nat),x0<=l.length->decide ((x0:Int) < (↑(l.length):Int))=true->l.getD x0 0 < (↑(f.pieces.length):Int))
  (o7:Sound f/\goodL f l -> ∀ (x0:Nat),x0<=l.length->decide ((x0:Int) < (↑(l.length):Int))=true->inI (penceP f (List.take x0 l) + (pc f (l.getD x0 0).toNat).pence))
  (o8:Sound f/\goodL f l -> ∀ (x0:Nat),x0<=l.length->decide ((x0:Int) < (↑(l.length):Int))=true->inI ((x0:Int) + 1))
  (o9:Sound f/\goodL f l -> ∀ (x0:Nat),x0<=l.length->decide ((x0:Int) < (↑(l.length):Int))=true->penceP f (List.take x0 l) + (pc f (l.getD x0 0).toNat).pence=penceP f (List.take (x0 + 1) l))
  (o10:Sound f/\goodL f l -> ∀ (x0:Nat),x0<=l.length->decide ((x0:Int) < (↑(l.length):Int))=true->(x0:Int) + 1=(↑(x0 + 1):Int))
  (o11:Sound f/\goodL f l -> ∀ (x0:Nat),x0<=l.length->decide ((x0:Int) < (↑(l.length):Int))=true->x0 + 1<=l.length)
  (o12:Sound f/\goodL f l -> ∀ (x0:Nat),x0<=l.length->decide ((x0:Int) < (↑(l.length):Int))=true->l.length - (x0 + 1) < l.length - x0)
  (o13:Sound f/\goodL f l -> ∀ (x0:Nat),x0<=l.length->decide ((x0:Int) < (↑(l.length):Int))=false->penceP f (List.take x0 l)=penceP f l) :
  Triple Try.prog 52 (s52 f l):=by
 refine triple_of Try.func52 rfl Try.call52 T0_ok _ rfl rfl rfl rfl (Nat.le_of_ble_eq_true (by kernel_rfl)) (fun _ _ _ _ h=>h) ?_
 intro hpre C hC _ hE
 obtain ⟨P,w0,E0,av,hA,ro,df⟩:=C
 obtain ⟨rfl,rfl,rfl⟩:=hC
 refine swp_seq ?_
 refine zR [1,2] [0] (Ak 2 tv) ?_
 refine swp_seq ?_
 refine zR [1,2,5] [0] (Ak 1 tv) ?_
 refine swp_seq ?_
 refine swp_seq ?_
 refine zR [1,2,5,6] [0] (Ak 1 tv) ?_
 refine swp_block ?_
 refine zL (Hint.ann (h52 f l) [(1,aInts l),(2,AV.ptr 0 [])] [(0,OB.cells 26 (cFrm f))] 10032) (zE hE [] [(0,.same 0)] [1] [0] (An (An (An (zr (aInts l)) (zr true)) (An (An (zr (some (Src.same 0))) (zr nilP)) (An (An (ci (o0 hpre)) (zr nilN)) (An (An (ci (o1 hpre)) (zr nilN)) tv)))) (An (An (An (zr (OB.cells 26 (cFrm f))) (zr true)) tv) (An (zr true) (zr true))))) (o2 hpre) (fun (x0:Nat) hx0 => ?_)
 refine swp_seq ?_
 refine swp_seq ?_
 refine zR [1,2,5,6,10] [0] (Ak 4 tv) ?_
 refine zI (decide ((x0:Int) < (↑(l.length):Int))) (fun y1 => ?_) (fun y1 => ?_)
 ·refine swp_skip ?_
  refine swp_seq ?_
  refine swp_block ?_
  refine zR [1,2,5,6] [0] (Ak 5 (An (An (o3 hpre x0 hx0 y1) (o4 hpre x0 hx0 y1)) (Ak 1 (An (An (o5 hpre x0 hx0 y1) (o6 hpre x0 hx0 y1)) (Ak 2 (An (o7 hpre x0 hx0 y1) (Ak 1 tv))))))) ?_
  refine zR [1,2,5,6] [0] (Ak 1 (An (o8 hpre x0 hx0 y1) (Ak 1 tv))) ?_
  exact zn (zE hE [] [(0,.same 0)] [1] [0] (An (An (An (zr (aInts l)) (zr true)) (An (An (zr (some (Src.same 0))) (zr nilP)) (An (An (ci (o9 hpre x0 hx0 y1)) (zr nilN)) (An (An (ci (o10 hpre x0 hx0 y1)) (zr nilN)) tv)))) (An (An (An (zr (OB.cells 26 (cFrm f))) (zr true)) tv) (An (zr true) (zr true))))) (o11 hpre x0 hx0 y1) (o12 hpre x0 hx0 y1)
 ·refine swp_exit ?_
  refine swp_seq ?_
  refine zR [4] [] (Ak 2 tv) ?_
  refine swp_ret ?_
  exact zT [] (An (Ak 1 tv) (An (An (ci (o13 hpre x0 hx0 y1)) (zr nilN)) (An (zr true) (An (zr true) (zr true)))))
theorem t52 (f:Frm) (l:List Int):Triple Try.prog 52 (s52 f l):=by
 apply w52
 all_goals (rintro ⟨hs,hl⟩; have hlen:=hl.1)
 case o0 | o1=>rfl
 case o2=>omega
 all_goals (intro x hx h; simp only [decide_eq_true_eq,decide_eq_false_iff_not] at h)
 case o13=>rw [List.take_of_length_le (by omega)]
 all_goals (have h2:=hl.2 x (by omega))
 case o5=>exact h2.1
 case o6=>exact h2.2
 case o9=>exact (pence_take f l (by omega)).symm
 all_goals (have h3:=pence_bound hs hl x (by omega); have h4:=hs.piece (l.getD x 0).toNat (by omega))
 all_goals (first | omega | (simp only [inI]; omega))
theorem w50 (f:Frm)
  (o0:okFrm f=true->smallF f)
  (o1:okFrm f=true->decide (refuseE f=3)=true->100000=lostV f)
  (o2:okFrm f=true->decide (refuseE f=3)=false->lostN f=lostV f)
  (o3:okFrm f=true->decide (refuseE f=3)=false->(bif bif decide (refuseE f=0) then decide (0<=lostN f) else false then decide (lostN f < 100000) else false)=true) :
  Triple Try.prog 50 (s50 f):=by
 refine triple_of Try.func50 rfl Try.call50 T0_ok _ rfl rfl rfl rfl (Nat.le_of_ble_eq_true (by kernel_rfl)) (fun _ _ _ _ h=>h) ?_
 intro hpre C hC _ hE
 obtain ⟨P,w0,E0,av,hA,ro,df⟩:=C
 obtain ⟨rfl,rfl,rfl⟩:=hC
 refine swp_seq ?_
 refine zR [1] [0] (Ak 3 tv) ?_
 refine swp_seq ?_
 refine zC ([(1,CallSpec.eq (s44 f) [true])]) [4,5] [] (Ak 1 (An (An (An (zr (AV.agg (cFrm f))) tv) (An (t44 (f)) (An (o0 hpre) (Ak 1 (fun (i0:Env)=>tv))))) (Ak 5 tv))) ?_
 refine swp_seq ?_
 refine swp_seq ?_
 refine zR [4,5,12] [] (Ak 2 tv) ?_
 refine zI (decide (refuseE f=3)) (fun y1 => ?_) (fun y1 => ?_)
 ·refine swp_seq ?_
  refine zR [2,3] [] (Ak 2 tv) ?_
  refine swp_ret ?_
  exact zT [] (An (Ak 2 tv) (An (An (An (ci (o1 hpre y1)) (zr nilN)) (An (An (zr (bv true)) (zr nilN)) tv)) (An (zr true) (An (zr true) (zr true)))))
 ·refine swp_skip ?_
  refine swp_seq ?_
  refine zR [2,3] [] (Ak 4 (An (fun (y2:decide (refuseE f=0)=true)=>(An (Ak 1 tv) tv)) (An (fun (y3:decide (refuseE f=0)=true)=>(An (An (fun (y4:decide (refuseE f=0)=true)=>y3) (Ak 1 tv)) tv)) (An (An (fun (y5:decide (refuseE f=0)=true)=>y5) (fun (y6:decide (refuseE f=0)=false)=>tv)) (Ak 1 (An (fun (y7:(bif decide (refuseE f=0) then decide (0<=lostN f) else false)=true)=>(An (Ak 1 tv) tv)) (An (fun (y8:(bif decide (refuseE f=0) then decide (0<=lostN f) else false)=true)=>(An (An (fun (y9:(bif decide (refuseE f=0) then decide (0<=lostN f) else false)=true)=>y8) (Ak 1 tv)) tv)) (An (An (fun (y10:(bif decide (refuseE f=0) then decide (0<=lostN f) else false)=true)=>y10) (fun (y11:(bif decide (refuseE f=0) then decide (0<=lostN f) else false)=false)=>tv)) (Ak 2 tv))))))))) ?_
  refine swp_ret ?_
  exact zT [] (An (Ak 2 tv) (An (An (An (ci (o2 hpre y1)) (zr nilN)) (An (An (cb (o3 hpre y1)) (zr nilN)) tv)) (An (zr true) (An (zr true) (zr true)))))
theorem t50 (f:Frm):Triple Try.prog 50 (s50 f):=by
 apply w50
 all_goals (intro h; have hs:=sound_of h)
 case o0=>exact sound_small hs
 all_goals (have ee:refuseE f=if (refP f).isSome then 0 else 3:=by unfold refuseE; rw [if_pos h])
 all_goals (have en:lostN f=outN (refP f):=by unfold lostN; rw [if_pos h])
 all_goals (rw [ee]; (try rw [en]))
 case o1 =>
  unfold lostV
  cases e:refP f with
  | none=>intro _; rfl
  | some x=>intro h; exact absurd h (by simp)
 case o2 =>
  unfold lostV
  cases e:refP f with
  | none=>intro h; exact absurd h (by simp)
  | some x=>intro _; rfl
 case o3 =>
  cases e:refP f with
  | none=>intro h; exact absurd h (by simp)
  | some x =>
   intro _
   have:=ref_ok hs _ x e
   show (bif bif true then decide (0<=x.2) else false then decide (x.2 < 100000) else false)=true
   rw [decide_eq_true (show 0<=x.2 by omega),decide_eq_true (show x.2 < 100000 by omega)]; rfl
end Go.Ab
namespace Go.Sh
open Go.Ab
def setsFrom (left first:List Int):List (List Int):=(setsP (left.drop first.length)).map (first ++ ·)
def setsTo (left first:List Int) (n:Nat):List (List Int):=(List.range n).flatMap fun (m:Nat)=>setsFrom left (first ++ [(m:Int)])
def laysOf (f:Frm) (c:Nat) (left s:List Int):List (List (List Int)):=if sureP f c (pointsP f s) then (laysC f (f.columns.length - (c + 1)) (restL left s)).map (s :: ·) else []
def laysTo (f:Frm) (c:Nat) (left:List Int) (n:Nat):List (List (List Int)):=((setsP left).take n).flatMap (laysOf f c left)
def setI (left:List Int) (x:Nat):List Int:=(setsP left).getD x []
def moreL (f:Frm) (c:Nat) (left:List Int) (x:Nat):List (List (List Int)):=laysC f (f.columns.length - (c + 1)) (restL left (setI left x))
def laysIn (f:Frm) (c:Nat) (left:List Int) (x k:Nat):List (List (List Int)):=laysTo f c left x ++ ((moreL f c left x).take k).map (setI left x :: ·)
def laysA (f:Frm):List (List (List Int)):=laysC f f.columns.length (stockTo f f.strips.length)
variable {f:Frm} {left first:List Int}
theorem setsFrom_base (h:first.length=left.length):setsFrom left first = [first]:=by
 unfold setsFrom; rw [h,List.drop_length]; show [first ++ []] = [first]; rw [List.append_nil]
theorem setsTo_succ (left first:List Int) (n:Nat):setsTo left first (n + 1)=setsTo left first n ++ setsFrom left (first ++ [(n:Int)]):=by
 unfold setsTo; rw [List.range_succ,List.flatMap_append]; simp
theorem setsTo_end (h:first.length < left.length):setsTo left first ((left.getD first.length 0).toNat + 1)=setsFrom left first:=by
 unfold setsTo setsFrom
 rw [drop_cons 0 h,setsP,List.map_flatMap]
 refine flatMap_congr' fun m _ => ?_
 rw [List.length_append,List.length_singleton,List.map_map]
 refine List.map_congr_left fun s _ => ?_
 show first ++ [(m:Int)] ++ s=first ++ ((m:Int) :: s)
 rw [List.append_assoc]; rfl
theorem prodL_five:∀ {l:List Int},(∀ q,q < l.length->l.getD q 0<=4)->prodL l<=5 ^ l.length:=by
 intro l
 induction l with
 | nil=>intro _; exact Nat.le_refl _
 | cons a l ih =>
  intro h
  have h0:a<=4:=h 0 (Nat.succ_pos _)
  have h1:=ih (fun q hq=>h (q + 1) (Nat.succ_lt_succ hq))
  show (a.toNat + 1) * prodL l<=5 ^ (l.length + 1)
  rw [Nat.pow_succ,Nat.mul_comm (5 ^ _)]
  exact Nat.mul_le_mul (by omega) h1
theorem setsP_len (l:List Int):(setsP l).length=prodL l:=by rw [setsP_eq,List.length_map,List.length_range]
theorem setsFrom_len (h:left.length<=3) (h1:∀ q,q < left.length->left.getD q 0<=4) (first:List Int):(setsFrom left first).length<=125:=by
 unfold setsFrom
 rw [List.length_map,setsP_len]
 refine Nat.le_trans (prodL_five fun q hq => ?_) (Nat.le_trans (Nat.pow_le_pow_right (by omega) (show (left.drop first.length).length<=3 by rw [List.length_drop]; omega)) (by decide))
 rw [List.length_drop] at hq
 rw [getD_drop]; exact h1 _ (by omega)
theorem setsTo_len (h:left.length<=3) (h1:∀ q,q < left.length->left.getD q 0<=4) (first:List Int) (n:Nat):(setsTo left first n).length<=n * 125:=by
 have:=flatMap_len (fun m:Nat=>setsFrom left (first ++ [(m:Int)])) 125 (List.range n) (fun m _=>setsFrom_len h h1 _)
 rw [List.length_range] at this
 exact this
theorem setsFrom_nil (left:List Int):setsFrom left []=setsP left:=by
 unfold setsFrom; rw [List.length_nil,List.drop_zero]; simp
theorem setI_N {x:Nat} (h:x < prodL left):setI left x=setN left x:=by
 unfold setI; rw [setsP_eq,getD_lt _ _ (by rw [List.length_map,List.length_range]; exact h),List.getElem_map,List.getElem_range]
theorem laysTo_succ {c x:Nat} (h:x < (setsP left).length):laysTo f c left (x + 1)=laysTo f c left x ++ laysOf f c left (setI left x):=by
 unfold laysTo setI; rw [take_succ _ [] h,List.flatMap_append]; simp
theorem laysOf_f {c:Nat} {s:List Int} (h:sureP f c (pointsP f s)=false):laysOf f c left s = []:=by unfold laysOf; rw [h]; rfl
theorem laysOf_t {c x:Nat} (h:sureP f c (pointsP f (setI left x))=true):laysOf f c left (setI left x)=(moreL f c left x).map (setI left x :: ·):=by unfold laysOf moreL; rw [if_pos h]
theorem laysTo_end {c:Nat} (h:c < f.columns.length):laysTo f c left (setsP left).length=laysC f (f.columns.length - c) left:=by
 unfold laysTo
 rw [List.take_of_length_le (Nat.le_refl _),show f.columns.length - c=(f.columns.length - (c + 1)) + 1 by omega,laysC,show f.columns.length - (f.columns.length - (c + 1) + 1)=c by omega]
 rfl
theorem prodL_le:∀ {a b:List Int},a.length=b.length->(∀ q,q < a.length->a.getD q 0<=b.getD q 0)->prodL a<=prodL b:=by
 intro a
 induction a with
 | nil=>intro b h _; rw [List.eq_nil_of_length_eq_zero h.symm]; exact Nat.le_refl _
 | cons x a iha =>
  intro b h h2
  match b,h,h2 with
  | y :: b,h,h2 =>
   have h0:x<=y:=h2 0 (Nat.succ_pos _)
   exact Nat.mul_le_mul (by omega) (iha (Nat.succ.inj h) (fun q hq=>h2 (q + 1) (Nat.succ_lt_succ hq)))
theorem rest_prod (hl:GoodLeft f left) {x:Nat} (h:x < prodL left) (hp:prodL left<=30):prodL (restL left (setI left x))<=30:=by
 rw [setI_N h]
 refine Nat.le_trans (prodL_le (restL_len _ _) fun q hq => ?_) hp
 rw [restL_len] at hq
 rw [restL_get hq]
 have:=hl.set h q hq
 omega
theorem pow30 {m:Nat} (h:m<=2):30 ^ m<=900:=by
 have:m=0 ∨ m=1 ∨ m=2:=by omega
 rcases this with rfl | rfl | rfl <;> decide
theorem moreL_len (hs:Sound f) (hl:GoodLeft f left) (hp:prodL left<=30) {c x:Nat} (hx:x < prodL left):(moreL f c left x).length<=900:=by
 unfold moreL
 have hc:=hs.columns
 refine Nat.le_trans (laysC_len hs _ _ ?_ (rest_prod hl hx hp)) (pow30 (by omega))
 rw [setI_N hx]; exact hl.rest hx
theorem laysTo_len (hs:Sound f) (hl:GoodLeft f left) (hp:prodL left<=30) (c:Nat):∀ x:Nat,x<=prodL left->(laysTo f c left x).length<=x * 900:=by
 intro x
 induction x with
 | zero=>intro _; exact Nat.zero_le _
 | succ x ih =>
  intro h
  rw [laysTo_succ (by rw [setsP_len]; omega),List.length_append]
  have h1:=ih (by omega)
  have h2:(laysOf f c left (setI left x)).length<=900:=by
   cases e:sureP f c (pointsP f (setI left x)) with
   | true=>rw [laysOf_t e,List.length_map]; exact moreL_len hs hl hp (by omega)
   | false=>rw [laysOf_f e]; exact Nat.zero_le _
  omega
theorem laysC_mem:∀ {m:Nat} {left:List Int} {l:List (List Int)},l ∈ laysC f m left->l.length=m:=by
  intro m
  induction m with
  | zero => intro left l h; have : l = [] := by simpa [laysC] using h
            rw [this]; rfl
  | succ m ih =>
    intro left l h
    rw [laysC] at h
    obtain ⟨s,_,h⟩:=List.mem_flatMap.1 h
    split at h
    · obtain ⟨t,ht,rfl⟩:=List.mem_map.1 h
      rw [List.length_cons,ih ht]
    · cases h
theorem moreL_at (hs:Sound f) {c x k:Nat} (h:k < (moreL f c left x).length):((moreL f c left x).getD k []).length<=3:=by
 have hc:=hs.columns
 have:=laysC_mem (getD_mem (moreL f c left x) [] h)
 omega
theorem laysIn_succ {c x k:Nat} (h:k < (moreL f c left x).length):laysIn f c left x (k + 1)=laysIn f c left x k ++ [setI left x :: (moreL f c left x).getD k []]:=by
 unfold laysIn; rw [take_succ _ [] h,List.map_append,← List.append_assoc]; rfl
theorem laysIn_zero (c x:Nat):laysIn f c left x 0=laysTo f c left x:=by unfold laysIn; simp
theorem laysIn_end {c x k:Nat} (hx:x < (setsP left).length) (h:(moreL f c left x).length<=k) (hs:sureP f c (pointsP f (setI left x))=true):laysIn f c left x k=laysTo f c left (x + 1):=by
 unfold laysIn; rw [List.take_of_length_le h,laysTo_succ hx,laysOf_t hs]
theorem laysIn_len (hs:Sound f) (hl:GoodLeft f left) (hp:prodL left<=30) {c x:Nat} (hx:x < prodL left) (k:Nat):(laysIn f c left x k).length<=27900:=by
 unfold laysIn
 rw [List.length_append,List.length_map,List.length_take]
 have h1:=laysTo_len hs hl hp c x (by omega)
 have h2:=moreL_len hs hl hp (c:=c) hx
 omega
theorem restQ_self (left s:List Int) (k:Nat):restQ left s k k=left.getD k 0:=by unfold restQ; rw [if_neg (Nat.lt_irrefl _)]
theorem restQ_end {s:List Int} {q:Nat} (h:q < left.length):restQ left s left.length q=(restL left s).getD q 0:=by unfold restQ; rw [if_pos h,restL_get h]
theorem laysA_whole (hs:Sound f):wholeP f 0=fmL (laysA f):=whole_lays hs
theorem prodL_snoc (l:List Int) (a:Int):prodL (l ++ [a])=prodL l * (a.toNat + 1):=by
 induction l with
 | nil=>show (a.toNat + 1) * 1=1 * (a.toNat + 1); omega
 | cons x l ih=>show (x.toNat + 1) * prodL (l ++ [a])=(x.toNat + 1) * prodL l * (a.toNat + 1); rw [ih,Nat.mul_assoc]
theorem prod_stock (hs:Sound f):∀ n,n<=f.strips.length->((prodL (stockTo f n):Nat):Int)=prodF f n:=by
 intro n
 induction n with
 | zero=>intro _; rfl
 | succ n ih =>
  intro h
  rw [stock_succ,prodL_snoc,prod_succ,← ih (by omega)]
  have:=hs.strip n (by omega)
  have e:(((stp f n).many.toNat:Nat):Int)=(stp f n).many:=by omega
  rw [Int.natCast_mul,Int.natCast_add,e]; rfl
end Go.Sh
namespace Go.En
open Go Go.Ab Go.Sh
def aLays (l:List (List (List Int))):AV := .sl 1 l.length (fun i=>[aIntss (l.getD i [])])
end Go.En
namespace Go.Ab
open Go Go.RowKit Go.Proofs Go.Sh Go.En
abbrev rowS (l:List (List Int)):OB := .vec 27 1 l.length (fun i=>[aInts (l.getD i [])])
abbrev rowL (l:List (List (List Int))):OB := .vec 24 1 l.length (fun i=>[aIntss (l.getD i [])])
def s134 (left first:List Int):CallSpec:={ args:=[aInts left,aInts first],res:=aIntss (setsFrom left first),pre:=first.length<=left.length/\left.length<=3 /\ ∀ q,q < left.length->0<=left.getD q 0/\left.getD q 0<=4 }
def h134 (left first:List Int):Hint:={ X:=Nat,M:=fun n=>[(5,.vec 5000),(6,iv n)],H:=fun n=>[(5000,rowS (setsTo left first n))],I:=fun n=>n<=(left.getD first.length 0).toNat + 1,mu:=fun n=>(left.getD first.length 0).toNat + 1 - n,x0:=(0:Nat),nx:=fun n=>n + 1 }
def c134 (left first:List Int) (n:Nat):CallSpec:=s134 left (first ++ [(n:Int)])
def s105 (f:Frm) (c:Nat) (left:List Int):CallSpec:={ args:=[vFrm f,iv c,aInts left],res:=aLays (laysC f (f.columns.length - c) left),pre:=Sound f/\c<=f.columns.length/\GoodLeft f left/\prodL left<=30 }
def h105a (f:Frm) (c:Nat) (left:List Int):Hint:={ X:=Nat,M:=fun i=>[(7,.vec 5000),(9,iv i)],H:=fun i=>[(5000,rowL (laysTo f c left i))],I:=fun i=>i<=(setsP left).length,mu:=fun i=>(setsP left).length - i,x0:=(0:Nat),nx:=fun i=>i + 1 }
def h105b (f:Frm) (c:Nat) (left:List Int) (x:Nat):Hint:={ X:=Nat,M:=fun k=>[(10,.vec 5001),(11,iv k)],H:=fun k=>[(5001,.vec 3 1 left.length (fun q=>[iv (restQ left (setI left x) k q)]))],I:=fun k=>k<=left.length,mu:=fun k=>left.length - k,x0:=(0:Nat),nx:=fun k=>k + 1 }
def h105c (f:Frm) (c:Nat) (left:List Int) (x:Nat):Hint:={ X:=Nat,M:=fun k=>[(7,.vec 5002),(13,iv k)],H:=fun k=>[(5002,rowL (laysIn f c left x k))],I:=fun k=>k<=(moreL f c left x).length,mu:=fun k=>(moreL f c left x).length - k,x0:=(0:Nat),nx:=fun k=>k + 1 }
def c105z:CallSpec:={ args:=[aIntss []],res := .any }
def c105s (f:Frm) (c:Nat) (left:List Int):CallSpec:=s134 left []
def c105p (f:Frm) (c:Nat) (left:List Int) (x:Nat):CallSpec:=s23 f (setI left x)
def c105r (f:Frm) (c:Nat) (left:List Int) (x:Nat):CallSpec:=s105 f (c + 1) (restL left (setI left x))
end Go.Ab
namespace Go.Ab
open Go Go.RowKit Go.Proofs Go.Sh Go.En
theorem w134 (left:List Int) (first:List Int)
  (o0:(first.length<=left.length/\left.length<=3 /\ ∀ (q:Nat),q < left.length->0<=left.getD q 0/\left.getD q 0<=4)->decide ((↑(first.length):Int)=(↑(left.length):Int))=true->1=(setsFrom left first).length)
  (o1:(first.length<=left.length/\left.length<=3 /\ ∀ (q:Nat),q < left.length->0<=left.getD q 0/\left.getD q 0<=4)->decide ((↑(first.length):Int)=(↑(left.length):Int))=true -> ∀ (i1:Nat),i1 < (setsFrom left first).length->List.getD [[AV.sl 1 first.length fun (i:Nat)=>[iv (first.getD i 0)]]] i1 (TI.za ti27) = [aInts ((setsFrom left first).getD i1 [])])
  (o2:(first.length<=left.length/\left.length<=3 /\ ∀ (q:Nat),q < left.length->0<=left.getD q 0/\left.getD q 0<=4)->decide ((↑(first.length):Int)=(↑(left.length):Int))=false->0=(↑0:Int))
  (o3:(first.length<=left.length/\left.length<=3 /\ ∀ (q:Nat),q < left.length->0<=left.getD q 0/\left.getD q 0<=4)->decide ((↑(first.length):Int)=(↑(left.length):Int))=false->(setsTo left first 0).length=0)
  (o4:(first.length<=left.length/\left.length<=3 /\ ∀ (q:Nat),q < left.length->0<=left.getD q 0/\left.getD q 0<=4)->decide ((↑(first.length):Int)=(↑(left.length):Int))=false->0<=(left.getD first.length 0).toNat + 1)
  (o5:(first.length<=left.length/\left.length<=3 /\ ∀ (q:Nat),q < left.length->0<=left.getD q 0/\left.getD q 0<=4)->decide ((↑(first.length):Int)=(↑(left.length):Int))=false -> ∀ (x3:Nat),x3<=(left.getD first.length 0).toNat + 1->0<=(↑(first.length):Int))
  (o6:(first.length<=left.length/\left.length<=3 /\ ∀ (q:Nat),q < left.length->0<=left.getD q 0/\left.getD q 0<=4)->decide ((↑(first.length):Int)=(↑(left.length):Int))=false -> ∀ (x3:Nat),x3<=(left.getD first.length 0).toNat + 1->(↑(first.length):Int) < (↑(left.length):Int))
  (o7:(first.length<=left.length/\left.length<=3 /\ ∀ (q:Nat),q < left.length->0<=left.getD q 0/\left.getD q 0<=4)->decide ((↑(first.length):Int)=(↑(left.length):Int))=false -> ∀ (x3:Nat),x3<=(left.getD first.length 0).toNat + 1->decide ((x3:Int)<=left.getD first.length 0)=true->0 + first.length<=65536)
  (o8:(first.length<=left.length/\left.length<=3 /\ ∀ (q:Nat),q < left.length->0<=left.getD q 0/\left.getD q 0<=4)->decide ((↑(first.length):Int)=(↑(left.length):Int))=false -> ∀ (x3:Nat),x3<=(left.getD first.length 0).toNat + 1->decide ((x3:Int)<=left.getD first.length 0)=true->0 + first.length + 1<=65536)
  (o9:(first.length<=left.length/\left.length<=3 /\ ∀ (q:Nat),q < left.length->0<=left.getD q 0/\left.getD q 0<=4)->decide ((↑(first.length):Int)=(↑(left.length):Int))=false -> ∀ (x3:Nat),x3<=(left.getD first.length 0).toNat + 1->decide ((x3:Int)<=left.getD first.length 0)=true->0 + first.length + 1=(first ++ [(x3:Int)]).length)
  (o10:(first.length<=left.length/\left.length<=3 /\ ∀ (q:Nat),q < left.length->0<=left.getD q 0/\left.getD q 0<=4)->decide ((↑(first.length):Int)=(↑(left.length):Int))=false -> ∀ (x3:Nat),x3<=(left.getD first.length 0).toNat + 1->decide ((x3:Int)<=left.getD first.length 0)=true -> ∀ (i5:Nat),i5 < (first ++ [(x3:Int)]).length->catF (0 + first.length) (fun (i:Nat)=>[iv (first.getD i 0)]) (fun (j:Nat)=>List.getD [[iv (x3:Int)]] j (TI.za ti3)) i5 = [iv ((first ++ [(x3:Int)]).getD i5 0)])
  (o11:(first.length<=left.length/\left.length<=3 /\ ∀ (q:Nat),q < left.length->0<=left.getD q 0/\left.getD q 0<=4)->decide ((↑(first.length):Int)=(↑(left.length):Int))=false -> ∀ (x3:Nat),x3<=(left.getD first.length 0).toNat + 1->decide ((x3:Int)<=left.getD first.length 0)=true->Triple Try.prog 134 (c134 left first x3))
  (o12:(first.length<=left.length/\left.length<=3 /\ ∀ (q:Nat),q < left.length->0<=left.getD q 0/\left.getD q 0<=4)->decide ((↑(first.length):Int)=(↑(left.length):Int))=false -> ∀ (x3:Nat),x3<=(left.getD first.length 0).toNat + 1->decide ((x3:Int)<=left.getD first.length 0)=true->(first ++ [(x3:Int)]).length<=left.length)
  (o13:(first.length<=left.length/\left.length<=3 /\ ∀ (q:Nat),q < left.length->0<=left.getD q 0/\left.getD q 0<=4)->decide ((↑(first.length):Int)=(↑(left.length):Int))=false -> ∀ (x3:Nat),x3<=(left.getD first.length 0).toNat + 1->decide ((x3:Int)<=left.getD first.length 0)=true->left.length<=3)
  (o14:(first.length<=left.length/\left.length<=3 /\ ∀ (q:Nat),q < left.length->0<=left.getD q 0/\left.getD q 0<=4)->decide ((↑(first.length):Int)=(↑(left.length):Int))=false -> ∀ (x3:Nat),x3<=(left.getD first.length 0).toNat + 1->decide ((x3:Int)<=left.getD first.length 0)=true -> ∀ (i7:Nat),i7 < left.length->0<=left.getD i7 0)
  (o15:(first.length<=left.length/\left.length<=3 /\ ∀ (q:Nat),q < left.length->0<=left.getD q 0/\left.getD q 0<=4)->decide ((↑(first.length):Int)=(↑(left.length):Int))=false -> ∀ (x3:Nat),x3<=(left.getD first.length 0).toNat + 1->decide ((x3:Int)<=left.getD first.length 0)=true -> ∀ (i7:Nat),i7 < left.length->left.getD i7 0<=4)
  (o16:(first.length<=left.length/\left.length<=3 /\ ∀ (q:Nat),q < left.length->0<=left.getD q 0/\left.getD q 0<=4)->decide ((↑(first.length):Int)=(↑(left.length):Int))=false -> ∀ (x3:Nat),x3<=(left.getD first.length 0).toNat + 1->decide ((x3:Int)<=left.getD first.length 0)=true->(setsTo left first x3).length + (setsFrom left (first ++ [(x3:Int)])).length<=65536)
  (o17:(first.length<=left.length/\left.length<=3 /\ ∀ (q:Nat),q < left.length->0<=left.getD q 0/\left.getD q 0<=4)->decide ((↑(first.length):Int)=(↑(left.length):Int))=false -> ∀ (x3:Nat),x3<=(left.getD first.length 0).toNat + 1->decide ((x3:Int)<=left.getD first.length 0)=true->inI ((x3:Int) + 1))
  (o18:(first.length<=left.length/\left.length<=3 /\ ∀ (q:Nat),q < left.length->0<=left.getD q 0/\left.getD q 0<=4)->decide ((↑(first.length):Int)=(↑(left.length):Int))=false -> ∀ (x3:Nat),x3<=(left.getD first.length 0).toNat + 1->decide ((x3:Int)<=left.getD first.length 0)=true->(x3:Int) + 1=(↑(x3 + 1):Int))
  (o19:(first.length<=left.length/\left.length<=3 /\ ∀ (q:Nat),q < left.length->0<=left.getD q 0/\left.getD q 0<=4)->decide ((↑(first.length):Int)=(↑(left.length):Int))=false -> ∀ (x3:Nat),x3<=(left.getD first.length 0).toNat + 1->decide ((x3:Int)<=left.getD first.length 0)=true->(setsTo left first x3).length + (setsFrom left (first ++ [(x3:Int)])).length=(setsTo left first (x3 + 1)).length)
  (o20:(first.length<=left.length/\left.length<=3 /\ ∀ (q:Nat),q < left.length->0<=left.getD q 0/\left.getD q 0<=4)->decide ((↑(first.length):Int)=(↑(left.length):Int))=false -> ∀ (x3:Nat),x3<=(left.getD first.length 0).toNat + 1->decide ((x3:Int)<=left.getD first.length 0)=true -> ∀ (i10:Nat),i10 < (setsTo left first x3).length + (setsFrom left (first ++ [(x3:Int)])).length->catF (setsTo left first x3).length (fun (i:Nat)=>[aInts ((setsTo left first x3).getD i [])]) (fun (i:Nat)=>[aInts ((setsFrom left (first ++ [(x3:Int)])).getD i [])]) i10 = [aInts ((setsTo left first (x3 + 1)).getD i10 [])])
  (o21:(first.length<=left.length/\left.length<=3 /\ ∀ (q:Nat),q < left.length->0<=left.getD q 0/\left.getD q 0<=4)->decide ((↑(first.length):Int)=(↑(left.length):Int))=false -> ∀ (x3:Nat),x3<=(left.getD first.length 0).toNat + 1->decide ((x3:Int)<=left.getD first.length 0)=true->x3 + 1<=(left.getD first.length 0).toNat + 1)
  (o22:(first.length<=left.length/\left.length<=3 /\ ∀ (q:Nat),q < left.length->0<=left.getD q 0/\left.getD q 0<=4)->decide ((↑(first.length):Int)=(↑(left.length):Int))=false -> ∀ (x3:Nat),x3<=(left.getD first.length 0).toNat + 1->decide ((x3:Int)<=left.getD first.length 0)=true->(left.getD first.length 0).toNat + 1 - (x3 + 1) < (left.getD first.length 0).toNat + 1 - x3)
  (o23:(first.length<=left.length/\left.length<=3 /\ ∀ (q:Nat),q < left.length->0<=left.getD q 0/\left.getD q 0<=4)->decide ((↑(first.length):Int)=(↑(left.length):Int))=false -> ∀ (x3:Nat),x3<=(left.getD first.length 0).toNat + 1->decide ((x3:Int)<=left.getD first.length 0)=false->(setsTo left first x3).length=(setsFrom left first).length)
  (o24:(first.length<=left.length/\left.length<=3 /\ ∀ (q:Nat),q < left.length->0<=left.getD q 0/\left.getD q 0<=4)->decide ((↑(first.length):Int)=(↑(left.length):Int))=false -> ∀ (x3:Nat),x3<=(left.getD first.length 0).toNat + 1->decide ((x3:Int)<=left.getD first.length 0)=false -> ∀ (i12:Nat),i12 < (setsFrom left first).length -> [aInts ((setsTo left first x3).getD i12 [])] = [aInts ((setsFrom left first).getD i12 [])]) :
  Triple Try.prog 134 (s134 left first):=by
 refine triple_of Try.func134 rfl Try.call134 T0_ok _ rfl rfl rfl rfl (Nat.le_of_ble_eq_true (by kernel_rfl)) (fun _ _ _ _ h=>h) ?_
 intro hpre C hC _ hE
 obtain ⟨P,w0,E0,av,hA,ro,df⟩:=C
 obtain ⟨rfl,rfl,rfl⟩:=hC
 refine swp_seq ?_
 refine zR [0,1] [] (Ak 1 tv) ?_
 refine swp_seq ?_
 refine swp_seq ?_
 refine zR [0,1,11] [] (Ak 5 tv) ?_
 refine zI (decide ((↑(first.length):Int)=(↑(left.length):Int))) (fun y0 => ?_) (fun y0 => ?_)
 ·refine swp_seq ?_
  refine zR [4] [56] (Ak 3 tv) ?_
  refine swp_ret ?_
  exact zT [56] (An (Ak 1 tv) (An (An (zr 1) (An (o0 hpre y0) (fun (i1:Nat)=>(fun (y2:i1 < (setsFrom left first).length)=>(o1 hpre y0 i1 y2))))) (An (zr true) (An (zr true) (zr true)))))
 ·refine swp_skip ?_
  refine swp_seq ?_
  refine zR [0,1,5] [] (Ak 1 tv) ?_
  refine swp_seq ?_
  refine swp_seq ?_
  refine zR [0,1,5,6] [] (Ak 1 tv) ?_
  refine swp_block ?_
  refine zL (Hint.ann (h134 left first) [(0,aInts left),(1,aInts first)] [] 10064) (zE hE [] [(5000,.nil)] [0,1] [] (An (An (An (zr (aInts left)) (zr true)) (An (An (zr (aInts first)) (zr true)) (An (zr (some Src.nil)) (An (An (ci (o2 hpre y0)) (zr nilN)) tv)))) (An (An (o3 hpre y0) tv) (An (zr true) (zr true))))) (o4 hpre y0) (fun (x3:Nat) hx3 => ?_)
  refine swp_seq ?_
  refine swp_seq ?_
  refine zR [0,1,5,6,20] [5000] (Ak 4 (An (An (o5 hpre y0 x3 hx3) (o6 hpre y0 x3 hx3)) (Ak 2 tv))) ?_
  refine zI (decide ((x3:Int)<=left.getD first.length 0)) (fun y4 => ?_) (fun y4 => ?_)
  ·refine swp_skip ?_
   refine swp_seq ?_
   refine swp_block ?_
   refine zC ([(8,CallSpec.eq (c134 left first x3) [true,false])]) [0,1,5,6] [10192] (Ak 4 (An (o7 hpre y0 x3 hx3 y4) (Ak 2 (An (o8 hpre y0 x3 hx3 y4) (An (An (An (zr (aInts left)) (An (An (zr 1) (An (o9 hpre y0 x3 hx3 y4) (fun (i5:Nat)=>(fun (y6:i5 < (first ++ [(x3:Int)]).length)=>(o10 hpre y0 x3 hx3 y4 i5 y6))))) tv)) (An (o11 hpre y0 x3 hx3 y4) (An (An (o12 hpre y0 x3 hx3 y4) (An (o13 hpre y0 x3 hx3 y4) (fun (i7:Nat)=>(fun (y8:i7 < left.length)=>(An (o14 hpre y0 x3 hx3 y4 i7 y8) (o15 hpre y0 x3 hx3 y4 i7 y8)))))) (Ak 1 (fun (i9:Env)=>tv))))) (An (o16 hpre y0 x3 hx3 y4) (Ak 1 tv))))))) ?_
   refine zR [0,1,5,6] [10192] (Ak 1 (An (o17 hpre y0 x3 hx3 y4) (Ak 1 tv))) ?_
   exact zn (zE hE [] [(5000,.same 10192)] [0,1] [] (An (An (An (zr (aInts left)) (zr true)) (An (An (zr (aInts first)) (zr true)) (An (zr (some (Src.same 10192))) (An (An (ci (o18 hpre y0 x3 hx3 y4)) (zr nilN)) tv)))) (An (An (An (zr 27) (An (zr 1) (An (o19 hpre y0 x3 hx3 y4) (fun (i10:Nat)=>(fun (y11:i10 < (setsTo left first x3).length + (setsFrom left (first ++ [(x3:Int)])).length)=>(o20 hpre y0 x3 hx3 y4 i10 y11)))))) tv) (An (zr true) (zr true))))) (o21 hpre y0 x3 hx3 y4) (o22 hpre y0 x3 hx3 y4)
  ·refine swp_exit ?_
   refine swp_seq ?_
   refine zR [4] [5000] (Ak 2 tv) ?_
   refine swp_ret ?_
   exact zT [5000] (An (Ak 1 tv) (An (An (zr 1) (An (o23 hpre y0 x3 hx3 y4) (fun (i12:Nat)=>(fun (y13:i12 < (setsFrom left first).length)=>(o24 hpre y0 x3 hx3 y4 i12 y13))))) (An (zr true) (An (zr true) (zr true)))))
theorem t134 (left first:List Int):Triple Try.prog 134 (s134 left first):=by
 have key:∀ (k:Nat) (first:List Int),left.length - first.length<=k->Triple Try.prog 134 (s134 left first):=by
  intro k
  induction k with
  | zero =>
   intro first hk
   apply w134
   all_goals (rintro ⟨h1,h2,h3⟩; have he:first.length=left.length:=by omega)
   case o0=>intro _; rw [setsFrom_base he]; rfl
   case o1 =>
    intro _ i hi
    rw [setsFrom_base he] at hi ⊢
    have:i=0:=by simpa using hi
    subst this; rfl
   all_goals (intro h; exact absurd (by omega) (of_decide_eq_false h))
  | succ k ih =>
   intro first hk
   apply w134
   all_goals (rintro ⟨h1,h2,h3⟩)
   case o0=>intro h; rw [setsFrom_base (by have:=of_decide_eq_true h; omega)]; rfl
   case o1 =>
    intro h i hi
    rw [setsFrom_base (by have:=of_decide_eq_true h; omega)] at hi ⊢
    have:i=0:=by simpa using hi
    subst this; rfl
   all_goals (intro h; have he:first.length < left.length:=(by have:=of_decide_eq_false h; omega))
   case o2 | o3=>rfl
   case o4=>omega
   all_goals (have hb:=fun q hq=>(h3 q hq).2; have hlk:=h3 _ he)
   all_goals (intro x hx)
   case o5 | o6=>omega
   all_goals (intro hl; simp only [decide_eq_true_eq,decide_eq_false_iff_not] at hl)
   case o9=>rw [List.length_append,List.length_singleton]; omega
   case o10=>intro i hi; rw [List.length_append,List.length_singleton] at hi; exact catF_one first _ 0 (fun z=>[iv z]) (Nat.zero_add _) (fun _ _=>rfl) rfl hi
   case o11=>exact ih _ (by rw [List.length_append,List.length_singleton]; omega)
   case o12=>rw [List.length_append,List.length_singleton]; omega
   case o14=>intro q hq; exact (h3 q hq).1
   case o15=>intro q hq; exact hb q hq
   case o16=>have a:=setsTo_len h2 hb first x; have b:=setsFrom_len h2 hb (first ++ [(x:Int)]); omega
   case o19=>rw [setsTo_succ,List.length_append]
   case o20=>intro i hi; rw [setsTo_succ]; exact catF_eq _ _ [] (fun z=>[aInts z]) rfl (fun _ _=>rfl) (fun _ _=>rfl) hi
   case o23=>rw [show x=(left.getD first.length 0).toNat + 1 by omega,setsTo_end he]
   case o24=>intro i hi; rw [show x=(left.getD first.length 0).toNat + 1 by omega,setsTo_end he]
   all_goals (first | omega | (simp only [inI]; omega))
 exact key _ first (Nat.le_refl _)
theorem w105 (f:Frm) (c:Nat) (left:List Int)
  (o0:Sound f/\c<=f.columns.length/\GoodLeft f left/\prodL left<=30->decide ((c:Int)=(↑(f.columns.length):Int))=true -> ∀ (i1:Env) (i2:Bool) (i3:Value),Rel i1 i2 nilv i3->Rel i1 i2 (aIntss []) i3)
  (o1:Sound f/\c<=f.columns.length/\GoodLeft f left/\prodL left<=30->decide ((c:Int)=(↑(f.columns.length):Int))=true->1=(laysC f (f.columns.length - c) left).length)
  (o2:Sound f/\c<=f.columns.length/\GoodLeft f left/\prodL left<=30->decide ((c:Int)=(↑(f.columns.length):Int))=true -> ∀ (i5:Nat),i5 < (laysC f (f.columns.length - c) left).length->List.getD [[AV.sl 1 0 fun (i:Nat)=>[aInts (List.getD [] i [])]]] i5 (TI.za ti24) = [aIntss ((laysC f (f.columns.length - c) left).getD i5 [])])
  (o3:Sound f/\c<=f.columns.length/\GoodLeft f left/\prodL left<=30->decide ((c:Int)=(↑(f.columns.length):Int))=false->0<=left.length)
  (o4:Sound f/\c<=f.columns.length/\GoodLeft f left/\prodL left<=30->decide ((c:Int)=(↑(f.columns.length):Int))=false->left.length<=3)
  (o5:Sound f/\c<=f.columns.length/\GoodLeft f left/\prodL left<=30->decide ((c:Int)=(↑(f.columns.length):Int))=false -> ∀ (i7:Nat),i7 < left.length->0<=left.getD i7 0)
  (o6:Sound f/\c<=f.columns.length/\GoodLeft f left/\prodL left<=30->decide ((c:Int)=(↑(f.columns.length):Int))=false -> ∀ (i7:Nat),i7 < left.length->left.getD i7 0<=4)
  (o7:Sound f/\c<=f.columns.length/\GoodLeft f left/\prodL left<=30->decide ((c:Int)=(↑(f.columns.length):Int))=false->0=(↑0:Int))
  (o8:Sound f/\c<=f.columns.length/\GoodLeft f left/\prodL left<=30->decide ((c:Int)=(↑(f.columns.length):Int))=false->(laysTo f c left 0).length=0)
  (o9:Sound f/\c<=f.columns.length/\GoodLeft f left/\prodL left<=30->decide ((c:Int)=(↑(f.columns.length):Int))=false->0<=(setsP left).length)
  (o10:Sound f/\c<=f.columns.length/\GoodLeft f left/\prodL left<=30->decide ((c:Int)=(↑(f.columns.length):Int))=false -> ∀ (x10:Nat),x10<=(setsP left).length->decide ((x10:Int) < (↑((setsFrom left []).length):Int))=true->0<=(x10:Int))
  (o11:Sound f/\c<=f.columns.length/\GoodLeft f left/\prodL left<=30->decide ((c:Int)=(↑(f.columns.length):Int))=false -> ∀ (x10:Nat),x10<=(setsP left).length->decide ((x10:Int) < (↑((setsFrom left []).length):Int))=true->(x10:Int) < (↑((setsFrom left []).length):Int))
  (o12:Sound f/\c<=f.columns.length/\GoodLeft f left/\prodL left<=30->decide ((c:Int)=(↑(f.columns.length):Int))=false -> ∀ (x10:Nat),x10<=(setsP left).length->decide ((x10:Int) < (↑((setsFrom left []).length):Int))=true->((setsFrom left []).getD x10 []).length=(setI left x10).length)
  (o13:Sound f/\c<=f.columns.length/\GoodLeft f left/\prodL left<=30->decide ((c:Int)=(↑(f.columns.length):Int))=false -> ∀ (x10:Nat),x10<=(setsP left).length->decide ((x10:Int) < (↑((setsFrom left []).length):Int))=true -> ∀ (i12:Nat),i12 < (setI left x10).length -> [iv (((setsFrom left []).getD x10 []).getD i12 0)] = [iv ((setI left x10).getD i12 0)])
  (o14:Sound f/\c<=f.columns.length/\GoodLeft f left/\prodL left<=30->decide ((c:Int)=(↑(f.columns.length):Int))=false -> ∀ (x10:Nat),x10<=(setsP left).length->decide ((x10:Int) < (↑((setsFrom left []).length):Int))=true->isSet f (setI left x10)=true)
  (o15:Sound f/\c<=f.columns.length/\GoodLeft f left/\prodL left<=30->decide ((c:Int)=(↑(f.columns.length):Int))=false -> ∀ (x10:Nat),x10<=(setsP left).length->decide ((x10:Int) < (↑((setsFrom left []).length):Int))=true->c < f.columns.length)
  (o16:Sound f/\c<=f.columns.length/\GoodLeft f left/\prodL left<=30->decide ((c:Int)=(↑(f.columns.length):Int))=false -> ∀ (x10:Nat),x10<=(setsP left).length->decide ((x10:Int) < (↑((setsFrom left []).length):Int))=true -> -1000<=pointsP f (setI left x10))
  (o17:Sound f/\c<=f.columns.length/\GoodLeft f left/\prodL left<=30->decide ((c:Int)=(↑(f.columns.length):Int))=false -> ∀ (x10:Nat),x10<=(setsP left).length->decide ((x10:Int) < (↑((setsFrom left []).length):Int))=true->pointsP f (setI left x10)<=1000)
  (o18:Sound f/\c<=f.columns.length/\GoodLeft f left/\prodL left<=30->decide ((c:Int)=(↑(f.columns.length):Int))=false -> ∀ (x10:Nat),x10<=(setsP left).length->decide ((x10:Int) < (↑((setsFrom left []).length):Int))=true->(!sureP f c (pointsP f (setI left x10)))=true->inI ((x10:Int) + 1))
  (o19:Sound f/\c<=f.columns.length/\GoodLeft f left/\prodL left<=30->decide ((c:Int)=(↑(f.columns.length):Int))=false -> ∀ (x10:Nat),x10<=(setsP left).length->decide ((x10:Int) < (↑((setsFrom left []).length):Int))=true->(!sureP f c (pointsP f (setI left x10)))=true->(x10:Int) + 1=(↑(x10 + 1):Int))
  (o20:Sound f/\c<=f.columns.length/\GoodLeft f left/\prodL left<=30->decide ((c:Int)=(↑(f.columns.length):Int))=false -> ∀ (x10:Nat),x10<=(setsP left).length->decide ((x10:Int) < (↑((setsFrom left []).length):Int))=true->(!sureP f c (pointsP f (setI left x10)))=true->(laysTo f c left x10).length=(laysTo f c left (x10 + 1)).length)
  (o21:Sound f/\c<=f.columns.length/\GoodLeft f left/\prodL left<=30->decide ((c:Int)=(↑(f.columns.length):Int))=false -> ∀ (x10:Nat),x10<=(setsP left).length->decide ((x10:Int) < (↑((setsFrom left []).length):Int))=true->(!sureP f c (pointsP f (setI left x10)))=true -> ∀ (i17:Nat),i17 < (laysTo f c left x10).length -> [aIntss ((laysTo f c left x10).getD i17 [])] = [aIntss ((laysTo f c left (x10 + 1)).getD i17 [])])
  (o22:Sound f/\c<=f.columns.length/\GoodLeft f left/\prodL left<=30->decide ((c:Int)=(↑(f.columns.length):Int))=false -> ∀ (x10:Nat),x10<=(setsP left).length->decide ((x10:Int) < (↑((setsFrom left []).length):Int))=true->(!sureP f c (pointsP f (setI left x10)))=true->x10 + 1<=(setsP left).length)
  (o23:Sound f/\c<=f.columns.length/\GoodLeft f left/\prodL left<=30->decide ((c:Int)=(↑(f.columns.length):Int))=false -> ∀ (x10:Nat),x10<=(setsP left).length->decide ((x10:Int) < (↑((setsFrom left []).length):Int))=true->(!sureP f c (pointsP f (setI left x10)))=true->(setsP left).length - (x10 + 1) < (setsP left).length - x10)
  (o24:Sound f/\c<=f.columns.length/\GoodLeft f left/\prodL left<=30->decide ((c:Int)=(↑(f.columns.length):Int))=false -> ∀ (x10:Nat),x10<=(setsP left).length->decide ((x10:Int) < (↑((setsFrom left []).length):Int))=true->(!sureP f c (pointsP f (setI left x10)))=false->0 + left.length<=65536)
  (o25:Sound f/\c<=f.columns.length/\GoodLeft f left/\prodL left<=30->decide ((c:Int)=(↑(f.columns.length):Int))=false -> ∀ (x10:Nat),x10<=(setsP left).length->decide ((x10:Int) < (↑((setsFrom left []).length):Int))=true->(!sureP f c (pointsP f (setI left x10)))=false->0=(↑0:Int))
  (o26:Sound f/\c<=f.columns.length/\GoodLeft f left/\prodL left<=30->decide ((c:Int)=(↑(f.columns.length):Int))=false -> ∀ (x10:Nat),x10<=(setsP left).length->decide ((x10:Int) < (↑((setsFrom left []).length):Int))=true->(!sureP f c (pointsP f (setI left x10)))=false->0 + left.length=left.length)
  (o27:Sound f/\c<=f.columns.length/\GoodLeft f left/\prodL left<=30->decide ((c:Int)=(↑(f.columns.length):Int))=false -> ∀ (x10:Nat),x10<=(setsP left).length->decide ((x10:Int) < (↑((setsFrom left []).length):Int))=true->(!sureP f c (pointsP f (setI left x10)))=false -> ∀ (i20:Nat),i20 < 0 + left.length -> [iv (left.getD i20 0)] = [iv (restQ left (setI left x10) 0 i20)])
  (o28:Sound f/\c<=f.columns.length/\GoodLeft f left/\prodL left<=30->decide ((c:Int)=(↑(f.columns.length):Int))=false -> ∀ (x10:Nat),x10<=(setsP left).length->decide ((x10:Int) < (↑((setsFrom left []).length):Int))=true->(!sureP f c (pointsP f (setI left x10)))=false->0<=left.length)
  (o29:Sound f/\c<=f.columns.length/\GoodLeft f left/\prodL left<=30->decide ((c:Int)=(↑(f.columns.length):Int))=false -> ∀ (x10:Nat),x10<=(setsP left).length->decide ((x10:Int) < (↑((setsFrom left []).length):Int))=true->(!sureP f c (pointsP f (setI left x10)))=false -> ∀ (x19:Nat),x19<=left.length->decide ((x19:Int) < (↑(left.length):Int))=true->0<=(x19:Int))
  (o30:Sound f/\c<=f.columns.length/\GoodLeft f left/\prodL left<=30->decide ((c:Int)=(↑(f.columns.length):Int))=false -> ∀ (x10:Nat),x10<=(setsP left).length->decide ((x10:Int) < (↑((setsFrom left []).length):Int))=true->(!sureP f c (pointsP f (setI left x10)))=false -> ∀ (x19:Nat),x19<=left.length->decide ((x19:Int) < (↑(left.length):Int))=true->(x19:Int) < (↑(left.length):Int))
  (o31:Sound f/\c<=f.columns.length/\GoodLeft f left/\prodL left<=30->decide ((c:Int)=(↑(f.columns.length):Int))=false -> ∀ (x10:Nat),x10<=(setsP left).length->decide ((x10:Int) < (↑((setsFrom left []).length):Int))=true->(!sureP f c (pointsP f (setI left x10)))=false -> ∀ (x19:Nat),x19<=left.length->decide ((x19:Int) < (↑(left.length):Int))=true->x19 < left.length)
  (o32:Sound f/\c<=f.columns.length/\GoodLeft f left/\prodL left<=30->decide ((c:Int)=(↑(f.columns.length):Int))=false -> ∀ (x10:Nat),x10<=(setsP left).length->decide ((x10:Int) < (↑((setsFrom left []).length):Int))=true->(!sureP f c (pointsP f (setI left x10)))=false -> ∀ (x19:Nat),x19<=left.length->decide ((x19:Int) < (↑(left.length):Int))=true->0<=(x10:Int))
  (o33:Sound f/\c<=f.columns.length/\GoodLeft f left/\prodL left<=30->decide ((c:Int)=(↑(f.columns.length):Int))=false -> ∀ (x10:Nat),x10<=(setsP left).length->decide ((x10:Int) < (↑((setsFrom left []).length):Int))=true->(!sureP f c (pointsP f (setI left x10)))=false -> ∀ (x19:Nat),x19<=left.length->decide ((x19:Int) < (↑(left.length):Int))=true->(x10:Int) < (↑((setsFrom left []).length):Int))
  (o34:Sound f/\c<=f.columns.length/\GoodLeft f left/\prodL left<=30->decide ((c:Int)=(↑(f.columns.length):Int))=false -> ∀ (x10:Nat),x10<=(setsP left).length->decide ((x10:Int) < (↑((setsFrom left []).length):Int))=true->(!sureP f c (pointsP f (setI left x10)))=false -> ∀ (x19:Nat),x19<=left.length->decide ((x19:Int) < (↑(left.length):Int))=true->0<=(x19:Int))
  (o35:Sound f/\c<=f.columns.length/\GoodLeft f left/\prodL left<=30->decide ((c:Int)=(↑(f.columns.length):Int))=false -> ∀ (x10:Nat),x10<=(setsP left).length->decide ((x10:Int) < (↑((setsFrom left []).length):Int))=true->(!sureP f c (pointsP f (setI left x10)))=false -> ∀ (x19:Nat),x19<=left.length->decide ((x19:Int) < (↑(left.length):Int))=true->(x19:Int) < (↑(((setsFrom left []).getD x10 []).length):Int))
  (o36:Sound f/\c<=f.columns.length/\GoodLeft f left/\prodL left<=30->decide ((c:Int)=(↑(f.columns.length):Int))=false -> ∀ (x10:Nat),x10<=(setsP left).length->decide ((x10:Int) < (↑((setsFrom left []).length):Int))=true->(!sureP f c (pointsP f (setI left x10)))=false -> ∀ (x19:Nat),x19<=left.length->decide ((x19:Int) < (↑(left.length):Int))=true->inI (restQ left (setI left x10) x19 x19 - ((setsFrom left []).getD x10 []).getD x19 0))
  (o37:Sound f/\c<=f.columns.length/\GoodLeft f left/\prodL left<=30->decide ((c:Int)=(↑(f.columns.length):Int))=false -> ∀ (x10:Nat),x10<=(setsP left).length->decide ((x10:Int) < (↑((setsFrom left []).length):Int))=true->(!sureP f c (pointsP f (setI left x10)))=false -> ∀ (x19:Nat),x19<=left.length->decide ((x19:Int) < (↑(left.length):Int))=true->0<=(x19:Int))
  (o38:Sound f/\c<=f.columns.length/\GoodLeft f left/\prodL left<=30->decide ((c:Int)=(↑(f.columns.length):Int))=false -> ∀ (x10:Nat),x10<=(setsP left).length->decide ((x10:Int) < (↑((setsFrom left []).length):Int))=true->(!sureP f c (pointsP f (setI left x10)))=false -> ∀ (x19:Nat),x19<=left.length->decide ((x19:Int) < (↑(left.length):Int))=true->(x19:Int) < (↑(left.length):Int))
  (o39:Sound f/\c<=f.columns.length/\GoodLeft f left/\prodL left<=30->decide ((c:Int)=(↑(f.columns.length):Int))=false -> ∀ (x10:Nat),x10<=(setsP left).length->decide ((x10:Int) < (↑((setsFrom left []).length):Int))=true->(!sureP f c (pointsP f (setI left x10)))=false -> ∀ (x19:Nat),x19<=left.length->decide ((x19:Int) < (↑(left.length):Int))=true->x19 < left.length)
  (o40:Sound f/\c<=f.columns.length/\GoodLeft f left/\prodL left<=30->decide ((c:Int)=(↑(f.columns.length):Int))=false -> ∀ (x10:Nat),x10<=(setsP left).length->decide ((x10:Int) < (↑((setsFrom left []).length):Int))=true->(!sureP f c (pointsP f (setI left x10)))=false -> ∀ (x19:Nat),x19<=left.length->decide ((x19:Int) < (↑(left.length):Int))=true->inI ((x19:Int) + 1))
  (o41:Sound f/\c<=f.columns.length/\GoodLeft f left/\prodL left<=30->decide ((c:Int)=(↑(f.columns.length):Int))=false -> ∀ (x10:Nat),x10<=(setsP left).length->decide ((x10:Int) < (↑((setsFrom left []).length):Int))=true->(!sureP f c (pointsP f (setI left x10)))=false -> ∀ (x19:Nat),x19<=left.length->decide ((x19:Int) < (↑(left.length):Int))=true->(x19:Int) + 1=(↑(x19 + 1):Int))
  (o42:Sound f/\c<=f.columns.length/\GoodLeft f left/\prodL left<=30->decide ((c:Int)=(↑(f.columns.length):Int))=false -> ∀ (x10:Nat),x10<=(setsP left).length->decide ((x10:Int) < (↑((setsFrom left []).length):Int))=true->(!sureP f c (pointsP f (setI left x10)))=false -> ∀ (x19:Nat),x19<=left.length->decide ((x19:Int) < (↑(left.length):Int))=true -> ∀ (i23:Nat),i23 < left.length->Decidable.rec (fun (h:¬i23=x19)=>[iv (restQ left (setI left x10) x19 i23)]) (fun (h:i23=x19)=>[iv (restQ left (setI left x10) x19 x19 - ((setsFrom left []).getD x10 []).getD x19 0)] ++ []) (instDecidableEqNat i23 x19) = [iv (restQ left (setI left x10) (x19 + 1) i23)])
  (o43:Sound f/\c<=f.columns.length/\GoodLeft f left/\prodL left<=30->decide ((c:Int)=(↑(f.columns.length):Int))=false -> ∀ (x10:Nat),x10<=(setsP left).length->decide ((x10:Int) < (↑((setsFrom left []).length):Int))=true->(!sureP f c (pointsP f (setI left x10)))=false -> ∀ (x19:Nat),x19<=left.length->decide ((x19:Int) < (↑(left.length):Int))=true->x19 + 1<=left.length)
  (o44:Sound f/\c<=f.columns.length/\GoodLeft f left/\prodL left<=30->decide ((c:Int)=(↑(f.columns.length):Int))=false -> ∀ (x10:Nat),x10<=(setsP left).length->decide ((x10:Int) < (↑((setsFrom left []).length):Int))=true->(!sureP f c (pointsP f (setI left x10)))=false -> ∀ (x19:Nat),x19<=left.length->decide ((x19:Int) < (↑(left.length):Int))=true->left.length - (x19 + 1) < left.length - x19)
  (o45:Sound f/\c<=f.columns.length/\GoodLeft f left/\prodL left<=30->decide ((c:Int)=(↑(f.columns.length):Int))=false -> ∀ (x10:Nat),x10<=(setsP left).length->decide ((x10:Int) < (↑((setsFrom left []).length):Int))=true->(!sureP f c (pointsP f (setI left x10)))=false -> ∀ (x19:Nat),x19<=left.length->decide ((x19:Int) < (↑(left.length):Int))=false->inI ((c:Int) + 1))
  (o46:Sound f/\c<=f.columns.length/\GoodLeft f left/\prodL left<=30->decide ((c:Int)=(↑(f.columns.length):Int))=false -> ∀ (x10:Nat),x10<=(setsP left).length->decide ((x10:Int) < (↑((setsFrom left []).length):Int))=true->(!sureP f c (pointsP f (setI left x10)))=false -> ∀ (x19:Nat),x19<=left.length->decide ((x19:Int) < (↑(left.length):Int))=false->(c:Int) + 1=(↑(c + 1):Int))
  (o47:Sound f/\c<=f.columns.length/\GoodLeft f left/\prodL left<=30->decide ((c:Int)=(↑(f.columns.length):Int))=false -> ∀ (x10:Nat),x10<=(setsP left).length->decide ((x10:Int) < (↑((setsFrom left []).length):Int))=true->(!sureP f c (pointsP f (setI left x10)))=false -> ∀ (x19:Nat),x19<=left.length->decide ((x19:Int) < (↑(left.length):Int))=false->left.length=(restL left (setI left x10)).length)
  (o48:Sound f/\c<=f.columns.length/\GoodLeft f left/\prodL left<=30->decide ((c:Int)=(↑(f.columns.length):Int))=false -> ∀ (x10:Nat),x10<=(setsP left).length->decide ((x10:Int) < (↑((setsFrom left []).length):Int))=true->(!sureP f c (pointsP f (setI left x10)))=false -> ∀ (x19:Nat),x19<=left.length->decide ((x19:Int) < (↑(left.length):Int))=false -> ∀ (i27:Nat),i27 < (restL left (setI left x10)).length -> [iv (restQ left (setI left x10) x19 i27)] = [iv ((restL left (setI left x10)).getD i27 0)])
  (o49:Sound f/\c<=f.columns.length/\GoodLeft f left/\prodL left<=30->decide ((c:Int)=(↑(f.columns.length):Int))=false -> ∀ (x10:Nat),x10<=(setsP left).length->decide ((x10:Int) < (↑((setsFrom left []).length):Int))=true->(!sureP f c (pointsP f (setI left x10)))=false -> ∀ (x19:Nat),x19<=left.length->decide ((x19:Int) < (↑(left.length):Int))=false->Triple Try.prog 105 (c105r f c left x10))
  (o50:Sound f/\c<=f.columns.length/\GoodLeft f left/\prodL left<=30->decide ((c:Int)=(↑(f.columns.length):Int))=false -> ∀ (x10:Nat),x10<=(setsP left).length->decide ((x10:Int) < (↑((setsFrom left []).length):Int))=true->(!sureP f c (pointsP f (setI left x10)))=false -> ∀ (x19:Nat),x19<=left.length->decide ((x19:Int) < (↑(left.length):Int))=false->c + 1<=f.columns.length)
  (o51:Sound f/\c<=f.columns.length/\GoodLeft f left/\prodL left<=30->decide ((c:Int)=(↑(f.columns.length):Int))=false -> ∀ (x10:Nat),x10<=(setsP left).length->decide ((x10:Int) < (↑((setsFrom left []).length):Int))=true->(!sureP f c (pointsP f (setI left x10)))=false -> ∀ (x19:Nat),x19<=left.length->decide ((x19:Int) < (↑(left.length):Int))=false->GoodLeft f (restL left (setI left x10)))
  (o52:Sound f/\c<=f.columns.length/\GoodLeft f left/\prodL left<=30->decide ((c:Int)=(↑(f.columns.length):Int))=false -> ∀ (x10:Nat),x10<=(setsP left).length->decide ((x10:Int) < (↑((setsFrom left []).length):Int))=true->(!sureP f c (pointsP f (setI left x10)))=false -> ∀ (x19:Nat),x19<=left.length->decide ((x19:Int) < (↑(left.length):Int))=false->prodL (restL left (setI left x10))<=30)
  (o53:Sound f/\c<=f.columns.length/\GoodLeft f left/\prodL left<=30->decide ((c:Int)=(↑(f.columns.length):Int))=false -> ∀ (x10:Nat),x10<=(setsP left).length->decide ((x10:Int) < (↑((setsFrom left []).length):Int))=true->(!sureP f c (pointsP f (setI left x10)))=false -> ∀ (x19:Nat),x19<=left.length->decide ((x19:Int) < (↑(left.length):Int))=false->0=(↑0:Int))
  (o54:Sound f/\c<=f.columns.length/\GoodLeft f left/\prodL left<=30->decide ((c:Int)=(↑(f.columns.length):Int))=false -> ∀ (x10:Nat),x10<=(setsP left).length->decide ((x10:Int) < (↑((setsFrom left []).length):Int))=true->(!sureP f c (pointsP f (setI left x10)))=false -> ∀ (x19:Nat),x19<=left.length->decide ((x19:Int) < (↑(left.length):Int))=false->(laysTo f c left x10).length=(laysIn f c left x10 0).length)
  (o55:Sound f/\c<=f.columns.length/\GoodLeft f left/\prodL left<=30->decide ((c:Int)=(↑(f.columns.length):Int))=false -> ∀ (x10:Nat),x10<=(setsP left).length->decide ((x10:Int) < (↑((setsFrom left []).length):Int))=true->(!sureP f c (pointsP f (setI left x10)))=false -> ∀ (x19:Nat),x19<=left.length->decide ((x19:Int) < (↑(left.length):Int))=false -> ∀ (i31:Nat),i31 < (laysTo f c left x10).length -> [aIntss ((laysTo f c left x10).getD i31 [])] = [aIntss ((laysIn f c left x10 0).getD i31 [])])
  (o56:Sound f/\c<=f.columns.length/\GoodLeft f left/\prodL left<=30->decide ((c:Int)=(↑(f.columns.length):Int))=false -> ∀ (x10:Nat),x10<=(setsP left).length->decide ((x10:Int) < (↑((setsFrom left []).length):Int))=true->(!sureP f c (pointsP f (setI left x10)))=false -> ∀ (x19:Nat),x19<=left.length->decide ((x19:Int) < (↑(left.length):Int))=false->0<=(moreL f c left x10).length)
  (o57:Sound f/\c<=f.columns.length/\GoodLeft f left/\prodL left<=30->decide ((c:Int)=(↑(f.columns.length):Int))=false -> ∀ (x10:Nat),x10<=(setsP left).length->decide ((x10:Int) < (↑((setsFrom left []).length):Int))=true->(!sureP f c (pointsP f (setI left x10)))=false -> ∀ (x19:Nat),x19<=left.length->decide ((x19:Int) < (↑(left.length):Int))=false -> ∀ (x30:Nat),x30<=(moreL f c left x10).length->decide ((x30:Int) < (↑((laysC f (f.columns.length - (c + 1)) (restL left (setI left x10))).length):Int))=true->0<=(x10:Int))
  (o58:Sound f/\c<=f.columns.length/\GoodLeft f left/\prodL left<=30->decide ((c:Int)=(↑(f.columns.length):Int))=false -> ∀ (x10:Nat),x10<=(setsP left).length->decide ((x10:Int) < (↑((setsFrom left []).length):Int))=true->(!sureP f c (pointsP f (setI left x10)))=false -> ∀ (x19:Nat),x19<=left.length->decide ((x19:Int) < (↑(left.length):Int))=false -> ∀ (x30:Nat),x30<=(moreL f c left x10).length->decide ((x30:Int) < (↑((laysC f (f.columns.length - (c + 1)) (restL left (setI left x10))).length):Int))=true->(x10:Int) < (↑((setsFrom left []).length):Int))
  (o59:Sound f/\c<=f.columns.length/\GoodLeft f left/\prodL left<=30->decide ((c:Int)=(↑(f.columns.length):Int))=false -> ∀ (x10:Nat),x10<=(setsP left).length->decide ((x10:Int) < (↑((setsFrom left []).length):Int))=true->(!sureP f c (pointsP f (setI left x10)))=false -> ∀ (x19:Nat),x19<=left.length->decide ((x19:Int) < (↑(left.length):Int))=false -> ∀ (x30:Nat),x30<=(moreL f c left x10).length->decide ((x30:Int) < (↑((laysC f (f.columns.length - (c + 1)) (restL left (setI left x10))).length):Int))=true->0<=(x30:Int))
  (o60:Sound f/\c<=f.columns.length/\GoodLeft f left/\prodL left<=30->decide ((c:Int)=(↑(f.columns.length):Int))=false -> ∀ (x10:Nat),x10<=(setsP left).length->decide ((x10:Int) < (↑((setsFrom left []).length):Int))=true->(!sureP f c (pointsP f (setI left x10)))=false -> ∀ (x19:Nat),x19<=left.length->decide ((x19:Int) < (↑(left.length):Int))=false -> ∀ (x30:Nat),x30<=(moreL f c left x10).length->decide ((x30:Int) < (↑((laysC f (f.columns.length - (c + 1)) (restL left (setI left x10))).length):Int))=true->(x30:Int) < (↑((laysC f (f.columns.length - (c + 1)) (restL left (setI left x10))).length):Int))
  (o61:Sound f/\c<=f.columns.length/\GoodLeft f left/\prodL left<=30->decide ((c:Int)=(↑(f.columns.length):Int))=false -> ∀ (x10:Nat),x10<=(setsP left).length->decide ((x10:Int) < (↑((setsFrom left []).length):Int))=true->(!sureP f c (pointsP f (setI left x10)))=false -> ∀ (x19:Nat),x19<=left.length->decide ((x19:Int) < (↑(left.length):Int))=false -> ∀ (x30:Nat),x30<=(moreL f c left x10).length->decide ((x30:Int) < (↑((laysC f (f.columns.length - (c + 1)) (restL left (setI left x10))).length):Int))=true->1 + ((laysC f (f.columns.length - (c + 1)) (restL left (setI left x10))).getD x30 []).length<=65536)
  (o62:Sound f/\c<=f.columns.length/\GoodLeft f left/\prodL left<=30->decide ((c:Int)=(↑(f.columns.length):Int))=false -> ∀ (x10:Nat),x10<=(setsP left).length->decide ((x10:Int) < (↑((setsFrom left []).length):Int))=true->(!sureP f c (pointsP f (setI left x10)))=false -> ∀ (x19:Nat),x19<=left.length->decide ((x19:Int) < (↑(left.length):Int))=false -> ∀ (x30:Nat),x30<=(moreL f c left x10).length->decide ((x30:Int) < (↑((laysC f (f.columns.length - (c + 1)) (restL left (setI left x10))).length):Int))=true->(laysIn f c left x10 x30).length + 1<=65536)
  (o63:Sound f/\c<=f.columns.length/\GoodLeft f left/\prodL left<=30->decide ((c:Int)=(↑(f.columns.length):Int))=false -> ∀ (x10:Nat),x10<=(setsP left).length->decide ((x10:Int) < (↑((setsFrom left []).length):Int))=true->(!sureP f c (pointsP f (setI left x10)))=false -> ∀ (x19:Nat),x19<=left.length->decide ((x19:Int) < (↑(left.length):Int))=false -> ∀ (x30:Nat),x30<=(moreL f c left x10).length->decide ((x30:Int) < (↑((laysC f (f.columns.length - (c + 1)) (restL left (setI left x10))).length):Int))=true->inI ((x30:Int) + 1))
  (o64:Sound f/\c<=f.columns.length/\GoodLeft f left/\prodL left<=30->decide ((c:Int)=(↑(f.columns.length):Int))=false -> ∀ (x10:Nat),x10<=(setsP left).length->decide ((x10:Int) < (↑((setsFrom left []).length):Int))=true->(!sureP f c (pointsP f (setI left x10)))=false -> ∀ (x19:Nat),x19<=left.length->decide ((x19:Int) < (↑(left.length):Int))=false -> ∀ (x30:Nat),x30<=(moreL f c left x10).length->decide ((x30:Int) < (↑((laysC f (f.columns.length - (c + 1)) (restL left (setI left x10))).length):Int))=true->(x30:Int) + 1=(↑(x30 + 1):Int))
  (o65:Sound f/\c<=f.columns.length/\GoodLeft f left/\prodL left<=30->decide ((c:Int)=(↑(f.columns.length):Int))=false -> ∀ (x10:Nat),x10<=(setsP left).length->decide ((x10:Int) < (↑((setsFrom left []).length):Int))=true->(!sureP f c (pointsP f (setI left x10)))=false -> ∀ (x19:Nat),x19<=left.length->decide ((x19:Int) < (↑(left.length):Int))=false -> ∀ (x30:Nat),x30<=(moreL f c left x10).length->decide ((x30:Int) < (↑((laysC f (f.columns.length - (c + 1)) (restL left (setI left x10))).length):Int))=true->(laysIn f c left x10 x30).length + 1=(laysIn f c left x10 (x30 + 1)).length)
  (o66:Sound f/\c<=f.columns.length/\GoodLeft f left/\prodL left<=30->decide ((c:Int)=(↑(f.columns.length):Int))=false -> ∀ (x10:Nat),x10<=(setsP left).length->decide ((x10:Int) < (↑((setsFrom left []).length):Int))=true->(!sureP f c (pointsP f (setI left x10)))=false -> ∀ (x19:Nat),x19<=left.length->decide ((x19:Int) < (↑(left.length):Int))=false -> ∀ (x30:Nat),x30<=(moreL f c left x10).length->decide ((x30:Int) < (↑((laysC f (f.columns.length - (c + 1)) (restL left (setI left x10))).length):Int))=true -> ∀ (i34:Nat),i34 < (laysIn f c left x10 x30).length + 1->catF (laysIn f c left x10 x30).length (fun (i:Nat)=>[aIntss ((laysIn f c left x10 x30).getD i [])]) (fun (j:Nat)=>List.getD [[AV.sl 1 (1 + ((laysC f (f.columns.length - (c + 1)) (restL left (setI left x10))).getD x30 []).length) (catF 1 (fun (j:Nat)=>List.getD [[AV.sl 1 ((setsFrom left []).getD x10 []).length fun (i:Nat)=>[iv (((setsFrom left []).getD x10 []).getD i 0)]]] j (TI.za ti27)) fun (i:Nat)=>[aInts (((laysC f (f.columns.length - (c + 1)) (restL left (setI left x10))).getD x30 []).getD i [])])]] j (TI.za ti24)) i34 = [aIntss ((laysIn f c left x10 (x30 + 1)).getD i34 [])])
  (o67:Sound f/\c<=f.columns.length/\GoodLeft f left/\prodL left<=30->decide ((c:Int)=(↑(f.columns.length):Int))=false -> ∀ (x10:Nat),x10<=(setsP left).length->decide ((x10:Int) < (↑((setsFrom left []).length):Int))=true->(!sureP f c (pointsP f (setI left x10)))=false -> ∀ (x19:Nat),x19<=left.length->decide ((x19:Int) < (↑(left.length):Int))=false -> ∀ (x30:Nat),x30<=(moreL f c left x10).length->decide ((x30:Int) < (↑((laysC f (f.columns.length - (c + 1)) (restL left (setI left x10))).length):Int))=true->x30 + 1<=(moreL f c left x10).length)
  (o68:Sound f/\c<=f.columns.length/\GoodLeft f left/\prodL left<=30->decide ((c:Int)=(↑(f.columns.length):Int))=false -> ∀ (x10:Nat),x10<=(setsP left).length->decide ((x10:Int) < (↑((setsFrom left []).length):Int))=true->(!sureP f c (pointsP f (setI left x10)))=false -> ∀ (x19:Nat),x19<=left.length->decide ((x19:Int) < (↑(left.length):Int))=false -> ∀ (x30:Nat),x30<=(moreL f c left x10).length->decide ((x30:Int) < (↑((laysC f (f.columns.length - (c + 1)) (restL left (setI left x10))).length):Int))=true->(moreL f c left x10).length - (x30 + 1) < (moreL f c left x10).length - x30)
  (o69:Sound f/\c<=f.columns.length/\GoodLeft f left/\prodL left<=30->decide ((c:Int)=(↑(f.columns.length):Int))=false -> ∀ (x10:Nat),x10<=(setsP left).length->decide ((x10:Int) < (↑((setsFrom left []).length):Int))=true->(!sureP f c (pointsP f (setI left x10)))=false -> ∀ (x19:Nat),x19<=left.length->decide ((x19:Int) < (↑(left.length):Int))=false -> ∀ (x30:Nat),x30<=(moreL f c left x10).length->decide ((x30:Int) < (↑((laysC f (f.columns.length - (c + 1)) (restL left (setI left x10))).length):Int))=false->inI ((x10:Int) + 1))
  (o70:Sound f/\c<=f.columns.length/\GoodLeft f left/\prodL left<=30->decide ((c:Int)=(↑(f.columns.length):Int))=false -> ∀ (x10:Nat),x10<=(setsP left).length->decide ((x10:Int) < (↑((setsFrom left []).length):Int))=true->(!sureP f c (pointsP f (setI left x10)))=false -> ∀ (x19:Nat),x19<=left.length->decide ((x19:Int) < (↑(left.length):Int))=false -> ∀ (x30:Nat),x30<=(moreL f c left x10).length->decide ((x30:Int) < (↑((laysC f (f.columns.length - (c + 1)) (restL left (setI left x10))).length):Int))=false->(x10:Int) + 1=(↑(x10 + 1):Int))
  (o71:Sound f/\c<=f.columns.length/\GoodLeft f left/\prodL left<=30->decide ((c:Int)=(↑(f.columns.length):Int))=false -> ∀ (x10:Nat),x10<=(setsP left).length->decide ((x10:Int) < (↑((setsFrom left []).length):Int))=true->(!sureP f c (pointsP f (setI left x10)))=false -> ∀ (x19:Nat),x19<=left.length->decide ((x19:Int) < (↑(left.length):Int))=false -> ∀ (x30:Nat),x30<=(moreL f c left x10).length->decide ((x30:Int) < (↑((laysC f (f.columns.length - (c + 1)) (restL left (setI left x10))).length):Int))=false->(laysIn f c left x10 x30).length=(laysTo f c left (x10 + 1)).length)
  (o72:Sound f/\c<=f.columns.length/\GoodLeft f left/\prodL left<=30->decide ((c:Int)=(↑(f.columns.length):Int))=false -> ∀ (x10:Nat),x10<=(setsP left).length->decide ((x10:Int) < (↑((setsFrom left []).length):Int))=true->(!sureP f c (pointsP f (setI left x10)))=false -> ∀ (x19:Nat),x19<=left.length->decide ((x19:Int) < (↑(left.length):Int))=false -> ∀ (x30:Nat),x30<=(moreL f c left x10).length->decide ((x30:Int) < (↑((laysC f (f.columns.length - (c + 1)) (restL left (setI left x10))).length):Int))=false -> ∀ (i36:Nat),i36 < (laysIn f c left x10 x30).length -> [aIntss ((laysIn f c left x10 x30).getD i36 [])] = [aIntss ((laysTo f c left (x10 + 1)).getD i36 [])])
  (o73:Sound f/\c<=f.columns.length/\GoodLeft f left/\prodL left<=30->decide ((c:Int)=(↑(f.columns.length):Int))=false -> ∀ (x10:Nat),x10<=(setsP left).length->decide ((x10:Int) < (↑((setsFrom left []).length):Int))=true->(!sureP f c (pointsP f (setI left x10)))=false -> ∀ (x19:Nat),x19<=left.length->decide ((x19:Int) < (↑(left.length):Int))=false -> ∀ (x30:Nat),x30<=(moreL f c left x10).length->decide ((x30:Int) < (↑((laysC f (f.columns.length - (c + 1)) (restL left (setI left x10))).length):Int))=false->x10 + 1<=(setsP left).length)
  (o74:Sound f/\c<=f.columns.length/\GoodLeft f left/\prodL left<=30->decide ((c:Int)=(↑(f.columns.length):Int))=false -> ∀ (x10:Nat),x10<=(setsP left).length->decide ((x10:Int) < (↑((setsFrom left []).length):Int))=true->(!sureP f c (pointsP f (setI left x10)))=false -> ∀ (x19:Nat),x19<=left.length->decide ((x19:Int) < (↑(left.length):Int))=false -> ∀ (x30:Nat),x30<=(moreL f c left x10).length->decide ((x30:Int) < (↑((laysC f (f.columns.length - (c + 1)) (restL left (setI left x10))).length):Int))=false->(setsP left).length - (x10 + 1) < (setsP left).length - x10)
  (o75:Sound f/\c<=f.columns.length/\GoodLeft f left/\prodL left<=30->decide ((c:Int)=(↑(f.columns.length):Int))=false -> ∀ (x10:Nat),x10<=(setsP left).length->decide ((x10:Int) < (↑((setsFrom left []).length):Int))=false->(laysTo f c left x10).length=(laysC f (f.columns.length - c) left).length)
  (o76:Sound f/\c<=f.columns.length/\GoodLeft f left/\prodL left<=30->decide ((c:Int)=(↑(f.columns.length):Int))=false -> ∀ (x10:Nat),x10<=(setsP left).length->decide ((x10:Int) < (↑((setsFrom left []).length):Int))=false -> ∀ (i38:Nat),i38 < (laysC f (f.columns.length - c) left).length -> [aIntss ((laysTo f c left x10).getD i38 [])] = [aIntss ((laysC f (f.columns.length - c) left).getD i38 [])]) :
  Triple Try.prog 105 (s105 f c left):=by
 refine triple_of Try.func105 rfl Try.call105 T0_ok _ rfl rfl rfl rfl (Nat.le_of_ble_eq_true (by kernel_rfl)) (fun _ _ _ _ h=>h) ?_
 intro hpre C hC _ hE
 obtain ⟨P,w0,E0,av,hA,ro,df⟩:=C
 obtain ⟨rfl,rfl,rfl⟩:=hC
 refine swp_seq ?_
 refine zR [1,2,3] [0] (Ak 2 tv) ?_
 refine swp_seq ?_
 refine swp_seq ?_
 refine zR [1,2,3,18] [0] (Ak 5 tv) ?_
 refine zI (decide ((c:Int)=(↑(f.columns.length):Int))) (fun y0 => ?_) (fun y0 => ?_)
 ·refine swp_seq ?_
  refine zC ([(0,c105z)]) [6] [56] (An (An (An (fun (i1:Env)=>(fun (i2:Bool)=>(fun (i3:Value)=>(fun (y4:Rel i1 i2 nilv i3)=>(o0 hpre y0 i1 i2 i3 y4))))) tv) tv) (Ak 1 tv)) ?_
  refine swp_ret ?_
  exact zT [56] (An (Ak 1 tv) (An (An (zr 1) (An (o1 hpre y0) (fun (i5:Nat)=>(fun (y6:i5 < (laysC f (f.columns.length - c) left).length)=>(o2 hpre y0 i5 y6))))) (An (zr true) (An (zr true) (zr true)))))
 ·refine swp_skip ?_
  refine swp_seq ?_
  refine zR [1,2,3,7] [0] (Ak 1 tv) ?_
  refine swp_seq ?_
  refine zC ([(1,CallSpec.eq (c105s f c left) [true,false])]) [1,2,3,7,8] [0] (Ak 1 (An (An (An (zr (aInts left)) (An (zr 0) tv)) (An (t134 (left) ([])) (An (An (o3 hpre y0) (An (o4 hpre y0) (fun (i7:Nat)=>(fun (y8:i7 < left.length)=>(An (o5 hpre y0 i7 y8) (o6 hpre y0 i7 y8)))))) (Ak 1 (fun (i9:Env)=>tv))))) (Ak 1 tv))) ?_
  refine swp_seq ?_
  refine swp_seq ?_
  refine zR [1,2,3,7,8,9] [0] (Ak 1 tv) ?_
  refine swp_block ?_
  refine zL (Hint.ann (h105a f c left) [(1,iv (c:Int)),(2,aInts left),(3,AV.ptr 0 []),(8,aIntss (setsFrom left []))] [(0,OB.cells 26 (cFrm f))] 10096) (zE hE [] [(0,.same 0),(5000,.nil)] [1,2,8] [0] (An (An (An (zr (iv (c:Int))) (zr true)) (An (An (zr (aInts left)) (zr true)) (An (An (zr (some (Src.same 0))) (zr nilP)) (An (An (zr (aIntss (setsFrom left []))) (zr true)) (An (zr (some Src.nil)) (An (An (ci (o7 hpre y0)) (zr nilN)) tv)))))) (An (An (An (zr (OB.cells 26 (cFrm f))) (zr true)) (An (o8 hpre y0) tv)) (An (zr true) (zr true))))) (o9 hpre y0) (fun (x10:Nat) hx10 => ?_)
  refine swp_seq ?_
  refine swp_seq ?_
  refine zR [1,2,3,8,7,9,25] [0,5000] (Ak 4 tv) ?_
  refine zI (decide ((x10:Int) < (↑((setsFrom left []).length):Int))) (fun y11 => ?_) (fun y11 => ?_)
  ·refine swp_skip ?_
   refine swp_seq ?_
   refine swp_block ?_
   refine swp_seq ?_
   refine swp_seq ?_
   refine zC ([(7,CallSpec.eq (c105p f c left x10) [true,false]),(8,CallSpec.eq (s101 f c (pointsP f (setI left x10))) [true,true,true])]) [1,2,3,8,7,9,37] [0,5000] (Ak 5 (An (An (o10 hpre y0 x10 hx10 y11) (o11 hpre y0 x10 hx10 y11)) (Ak 1 (An (An (An (zr (AV.agg (cFrm f))) (An (An (zr 1) (An (o12 hpre y0 x10 hx10 y11) (fun (i12:Nat)=>(fun (y13:i12 < (setI left x10).length)=>(o13 hpre y0 x10 hx10 y11 i12 y13))))) tv)) (An (t23 (f) (setI left x10)) (An (An hpre.1 (o14 hpre y0 x10 hx10 y11)) (Ak 1 (fun (i14:Env)=>tv))))) (An (An (An (zr (AV.agg (cFrm f))) (An (zr (iv (c:Int))) (An (zr (iv (pointsP f (setI left x10)))) tv))) (An (t101 (f) (c) (pointsP f (setI left x10))) (An (An hpre.1 (An (o15 hpre y0 x10 hx10 y11) (An (o16 hpre y0 x10 hx10 y11) (o17 hpre y0 x10 hx10 y11)))) (Ak 1 (fun (i15:Env)=>tv))))) (Ak 1 tv)))))) ?_
   refine zI (!sureP f c (pointsP f (setI left x10))) (fun y16 => ?_) (fun y16 => ?_)
   ·refine swp_exit ?_
    refine zR [1,2,3,8,7,9] [0,5000] (Ak 1 (An (o18 hpre y0 x10 hx10 y11 y16) (Ak 1 tv))) ?_
    exact zn (zE hE [] [(0,.same 0),(5000,.same 5000)] [1,2,8] [0] (An (An (An (zr (iv (c:Int))) (zr true)) (An (An (zr (aInts left)) (zr true)) (An (An (zr (some (Src.same 0))) (zr nilP)) (An (An (zr (aIntss (setsFrom left []))) (zr true)) (An (zr (some (Src.same 5000))) (An (An (ci (o19 hpre y0 x10 hx10 y11 y16)) (zr nilN)) tv)))))) (An (An (An (zr (OB.cells 26 (cFrm f))) (zr true)) (An (An (zr 24) (An (zr 1) (An (o20 hpre y0 x10 hx10 y11 y16) (fun (i17:Nat)=>(fun (y18:i17 < (laysTo f c left x10).length)=>(o21 hpre y0 x10 hx10 y11 y16 i17 y18)))))) tv)) (An (zr true) (zr true))))) (o22 hpre y0 x10 hx10 y11 y16) (o23 hpre y0 x10 hx10 y11 y16)
   ·refine swp_skip ?_
    refine swp_seq ?_
    refine zR [1,2,3,8,7,9,10] [0,5000,10224] (Ak 2 (An (o24 hpre y0 x10 hx10 y11 y16) (Ak 1 tv))) ?_
    refine swp_seq ?_
    refine swp_seq ?_
    refine zR [1,2,3,8,7,9,10,11] [0,5000,10224] (Ak 1 tv) ?_
    refine swp_block ?_
    refine zL (Hint.ann (h105b f c left x10) [(1,iv (c:Int)),(2,aInts left),(3,AV.ptr 0 []),(8,aIntss (setsFrom left [])),(7,AV.vec 5000),(9,iv (x10:Int))] [(0,OB.cells 26 (cFrm f)),(5000,OB.vec 24 1 (laysTo f c left x10).length fun (i:Nat)=>[aIntss ((laysTo f c left x10).getD i [])])] 20248) (zE hE [] [(0,.same 0),(5000,.same 5000),(5001,.same 10224)] [1,2,8,9] [0,5000] (An (An (An (zr (iv (c:Int))) (zr true)) (An (An (zr (aInts left)) (zr true)) (An (An (zr (some (Src.same 0))) (zr nilP)) (An (An (zr (aIntss (setsFrom left []))) (zr true)) (An (zr (some (Src.same 5000))) (An (An (zr (iv (x10:Int))) (zr true)) (An (zr (some (Src.same 10224))) (An (An (ci (o25 hpre y0 x10 hx10 y11 y16)) (zr nilN)) tv)))))))) (An (An (An (zr (OB.cells 26 (cFrm f))) (zr true)) (An (An (zr (OB.vec 24 1 (laysTo f c left x10).length fun (i:Nat)=>[aIntss ((laysTo f c left x10).getD i [])])) (zr true)) (An (An (zr 3) (An (zr 1) (An (o26 hpre y0 x10 hx10 y11 y16) (fun (i20:Nat)=>(fun (y21:i20 < 0 + left.length)=>(o27 hpre y0 x10 hx10 y11 y16 i20 y21)))))) tv))) (An (zr true) (zr true))))) (o28 hpre y0 x10 hx10 y11 y16) (fun (x19:Nat) hx19 => ?_)
    refine swp_seq ?_
    refine swp_seq ?_
    refine zR [1,2,3,8,7,9,10,11,44] [0,5000,5001] (Ak 4 tv) ?_
    refine zI (decide ((x19:Int) < (↑(left.length):Int))) (fun y22 => ?_) (fun y22 => ?_)
    ·refine swp_skip ?_
     refine swp_seq ?_
     refine swp_block ?_
     refine zR [1,2,3,8,7,9,10,11] [0,5000,5001] (Ak 2 (An (An (o29 hpre y0 x10 hx10 y11 y16 x19 hx19 y22) (o30 hpre y0 x10 hx10 y11 y16 x19 hx19 y22)) (An (An (o31 hpre y0 x10 hx10 y11 y16 x19 hx19 y22) tv) (Ak 2 (An (An (o32 hpre y0 x10 hx10 y11 y16 x19 hx19 y22) (o33 hpre y0 x10 hx10 y11 y16 x19 hx19 y22)) (Ak 2 (An (An (o34 hpre y0 x10 hx10 y11 y16 x19 hx19 y22) (o35 hpre y0 x10 hx10 y11 y16 x19 hx19 y22)) (Ak 1 (An (o36 hpre y0 x10 hx10 y11 y16 x19 hx19 y22) (An (An (o37 hpre y0 x10 hx10 y11 y16 x19 hx19 y22) (o38 hpre y0 x10 hx10 y11 y16 x19 hx19 y22)) (An (An (o39 hpre y0 x10 hx10 y11 y16 x19 hx19 y22) tv) tv))))))))))) ?_
     refine zR [1,2,3,8,7,9,10,11] [0,5000,5001] (Ak 1 (An (o40 hpre y0 x10 hx10 y11 y16 x19 hx19 y22) (Ak 1 tv))) ?_
     exact zn (zE hE [] [(0,.same 0),(5000,.same 5000),(5001,.same 5001)] [1,2,8,9] [0,5000] (An (An (An (zr (iv (c:Int))) (zr true)) (An (An (zr (aInts left)) (zr true)) (An (An (zr (some (Src.same 0))) (zr nilP)) (An (An (zr (aIntss (setsFrom left []))) (zr true)) (An (zr (some (Src.same 5000))) (An (An (zr (iv (x10:Int))) (zr true)) (An (zr (some (Src.same 5001))) (An (An (ci (o41 hpre y0 x10 hx10 y11 y16 x19 hx19 y22)) (zr nilN)) tv)))))))) (An (An (An (zr (OB.cells 26 (cFrm f))) (zr true)) (An (An (zr (OB.vec 24 1 (laysTo f c left x10).length fun (i:Nat)=>[aIntss ((laysTo f c left x10).getD i [])])) (zr true)) (An (An (zr 3) (An (zr 1) (An (zr left.length) (fun (i23:Nat)=>(fun (y24:i23 < left.length)=>(o42 hpre y0 x10 hx10 y11 y16 x19 hx19 y22 i23 y24)))))) tv))) (An (zr true) (zr true))))) (o43 hpre y0 x10 hx10 y11 y16 x19 hx19 y22) (o44 hpre y0 x10 hx10 y11 y16 x19 hx19 y22)
    ·refine swp_exit ?_
     refine swp_seq ?_
     refine swp_ent (zE (st2:=ASt.mk [(1,iv (c:Int)),(2,aInts left),(3,AV.ptr 0 []),(8,aIntss (setsFrom left [])),(7,AV.vec 5000),(9,iv (x10:Int)),(10,AV.sl 1 left.length fun (q:Nat)=>[iv (restQ left (setI left x10) x19 q)]),(11,iv (x19:Int)),(44,bv (decide ((x19:Int) < (↑(left.length):Int))))] [(0,OB.cells 26 (cFrm f)),(5000,OB.vec 24 1 (laysTo f c left x10).length fun (i:Nat)=>[aIntss ((laysTo f c left x10).getD i [])])] 20280) hE [5001] [(0,.same 0),(5000,.same 5000)] [1,2,8,9,11,44] [0,5000] (An (An (An (zr (iv (c:Int))) (zr true)) (An (An (zr (aInts left)) (zr true)) (An (An (zr (some (Src.same 0))) (zr nilP)) (An (An (zr (aIntss (setsFrom left []))) (zr true)) (An (zr (some (Src.same 5000))) (An (An (zr (iv (x10:Int))) (zr true)) (An (An (zr 1) (An (zr left.length) (fun (i25:Nat)=>(fun (y26:i25 < left.length)=>(zr ([iv (restQ left (setI left x10) x19 i25)])))))) (An (An (zr (iv (x19:Int))) (zr true)) (An (An (zr (bv (decide ((x19:Int) < (↑(left.length):Int))))) (zr true)) tv))))))))) (An (An (An (zr (OB.cells 26 (cFrm f))) (zr true)) (An (An (zr (OB.vec 24 1 (laysTo f c left x10).length fun (i:Nat)=>[aIntss ((laysTo f c left x10).getD i [])])) (zr true)) tv)) (An (zr true) (zr true))))) ?_
     refine zC ([(4,CallSpec.eq (c105r f c left x10) [true,false,false])]) [1,2,3,8,7,9,12] [0,5000] (Ak 2 (An (o45 hpre y0 x10 hx10 y11 y16 x19 hx19 y22) (Ak 1 (An (An (An (zr (AV.agg (cFrm f))) (An (ci (o46 hpre y0 x10 hx10 y11 y16 x19 hx19 y22)) (An (An (zr 1) (An (o47 hpre y0 x10 hx10 y11 y16 x19 hx19 y22) (fun (i27:Nat)=>(fun (y28:i27 < (restL left (setI left x10)).length)=>(o48 hpre y0 x10 hx10 y11 y16 x19 hx19 y22 i27 y28))))) tv))) (An (o49 hpre y0 x10 hx10 y11 y16 x19 hx19 y22) (An (An hpre.1 (An (o50 hpre y0 x10 hx10 y11 y16 x19 hx19 y22) (An (o51 hpre y0 x10 hx10 y11 y16 x19 hx19 y22) (o52 hpre y0 x10 hx10 y11 y16 x19 hx19 y22)))) (Ak 1 (fun (i29:Env)=>tv))))) (Ak 1 tv))))) ?_
     refine swp_seq ?_
     refine zR [1,2,3,8,7,9,12,13] [0,5000] (Ak 1 tv) ?_
     refine swp_block ?_
     refine zL (Hint.ann (h105c f c left x10) [(1,iv (c:Int)),(2,aInts left),(3,AV.ptr 0 []),(8,aIntss (setsFrom left [])),(9,iv (x10:Int)),(12,aLays (laysC f (f.columns.length - (c + 1)) (restL left (setI left x10))))] [(0,OB.cells 26 (cFrm f))] 30336) (zE hE [] [(0,.same 0),(5002,.same 5000)] [1,2,8,9,12] [0] (An (An (An (zr (iv (c:Int))) (zr true)) (An (An (zr (aInts left)) (zr true)) (An (An (zr (some (Src.same 0))) (zr nilP)) (An (An (zr (aIntss (setsFrom left []))) (zr true)) (An (An (zr (iv (x10:Int))) (zr true)) (An (An (zr (aLays (laysC f (f.columns.length - (c + 1)) (restL left (setI left x10))))) (zr true)) (An (zr (some (Src.same 5000))) (An (An (ci (o53 hpre y0 x10 hx10 y11 y16 x19 hx19 y22)) (zr nilN)) tv)))))))) (An (An (An (zr (OB.cells 26 (cFrm f))) (zr true)) (An (An (zr 24) (An (zr 1) (An (o54 hpre y0 x10 hx10 y11 y16 x19 hx19 y22) (fun (i31:Nat)=>(fun (y32:i31 < (laysTo f c left x10).length)=>(o55 hpre y0 x10 hx10 y11 y16 x19 hx19 y22 i31 y32)))))) tv)) (An (zr true) (zr true))))) (o56 hpre y0 x10 hx10 y11 y16 x19 hx19 y22) (fun (x30:Nat) hx30 => ?_)
     refine swp_seq ?_
     refine swp_seq ?_
     refine zR [1,2,3,8,9,12,7,13,68] [0,5002] (Ak 4 tv) ?_
     refine zI (decide ((x30:Int) < (↑((laysC f (f.columns.length - (c + 1)) (restL left (setI left x10))).length):Int))) (fun y33 => ?_) (fun y33 => ?_)
     ·refine swp_skip ?_
      refine swp_seq ?_
      refine swp_block ?_
      refine zR [1,2,3,8,9,12,7,13] [0,30464] (Ak 3 (An (An (o57 hpre y0 x10 hx10 y11 y16 x19 hx19 y22 x30 hx30 y33) (o58 hpre y0 x10 hx10 y11 y16 x19 hx19 y22 x30 hx30 y33)) (Ak 4 (An (An (o59 hpre y0 x10 hx10 y11 y16 x19 hx19 y22 x30 hx30 y33) (o60 hpre y0 x10 hx10 y11 y16 x19 hx19 y22 x30 hx30 y33)) (Ak 1 (An (o61 hpre y0 x10 hx10 y11 y16 x19 hx19 y22 x30 hx30 y33) (Ak 1 (An (o62 hpre y0 x10 hx10 y11 y16 x19 hx19 y22 x30 hx30 y33) (Ak 1 tv))))))))) ?_
      refine zR [1,2,3,8,9,12,7,13] [0,30464] (Ak 1 (An (o63 hpre y0 x10 hx10 y11 y16 x19 hx19 y22 x30 hx30 y33) (Ak 1 tv))) ?_
      exact zn (zE hE [] [(0,.same 0),(5002,.same 30464)] [1,2,8,9,12] [0] (An (An (An (zr (iv (c:Int))) (zr true)) (An (An (zr (aInts left)) (zr true)) (An (An (zr (some (Src.same 0))) (zr nilP)) (An (An (zr (aIntss (setsFrom left []))) (zr true)) (An (An (zr (iv (x10:Int))) (zr true)) (An (An (zr (aLays (laysC f (f.columns.length - (c + 1)) (restL left (setI left x10))))) (zr true)) (An (zr (some (Src.same 30464))) (An (An (ci (o64 hpre y0 x10 hx10 y11 y16 x19 hx19 y22 x30 hx30 y33)) (zr nilN)) tv)))))))) (An (An (An (zr (OB.cells 26 (cFrm f))) (zr true)) (An (An (zr 24) (An (zr 1) (An (o65 hpre y0 x10 hx10 y11 y16 x19 hx19 y22 x30 hx30 y33) (fun (i34:Nat)=>(fun (y35:i34 < (laysIn f c left x10 x30).length + 1)=>(o66 hpre y0 x10 hx10 y11 y16 x19 hx19 y22 x30 hx30 y33 i34 y35)))))) tv)) (An (zr true) (zr true))))) (o67 hpre y0 x10 hx10 y11 y16 x19 hx19 y22 x30 hx30 y33) (o68 hpre y0 x10 hx10 y11 y16 x19 hx19 y22 x30 hx30 y33)
     ·refine swp_exit ?_
      refine zR [1,2,3,8,9,7] [0,5002] (Ak 1 (An (o69 hpre y0 x10 hx10 y11 y16 x19 hx19 y22 x30 hx30 y33) (Ak 1 tv))) ?_
      exact zn (zE hE [] [(0,.same 0),(5000,.same 5002)] [1,2,8] [0] (An (An (An (zr (iv (c:Int))) (zr true)) (An (An (zr (aInts left)) (zr true)) (An (An (zr (some (Src.same 0))) (zr nilP)) (An (An (zr (aIntss (setsFrom left []))) (zr true)) (An (zr (some (Src.same 5002))) (An (An (ci (o70 hpre y0 x10 hx10 y11 y16 x19 hx19 y22 x30 hx30 y33)) (zr nilN)) tv)))))) (An (An (An (zr (OB.cells 26 (cFrm f))) (zr true)) (An (An (zr 24) (An (zr 1) (An (o71 hpre y0 x10 hx10 y11 y16 x19 hx19 y22 x30 hx30 y33) (fun (i36:Nat)=>(fun (y37:i36 < (laysIn f c left x10 x30).length)=>(o72 hpre y0 x10 hx10 y11 y16 x19 hx19 y22 x30 hx30 y33 i36 y37)))))) tv)) (An (zr true) (zr true))))) (o73 hpre y0 x10 hx10 y11 y16 x19 hx19 y22 x30 hx30 y33) (o74 hpre y0 x10 hx10 y11 y16 x19 hx19 y22 x30 hx30 y33)
  ·refine swp_exit ?_
   refine swp_seq ?_
   refine zR [6] [5000] (Ak 2 tv) ?_
   refine swp_ret ?_
   exact zT [5000] (An (Ak 1 tv) (An (An (zr 1) (An (o75 hpre y0 x10 hx10 y11) (fun (i38:Nat)=>(fun (y39:i38 < (laysC f (f.columns.length - c) left).length)=>(o76 hpre y0 x10 hx10 y11 i38 y39))))) (An (zr true) (An (zr true) (zr true)))))
theorem lay_cells {d:List AV} (s:List Int) (l:List (List Int)):AV.sl 1 (1 + l.length) (catF 1 (fun j=>[[aInts s]].getD j d) (fun i=>[aInts (l.getD i [])]))=aIntss (s :: l):=by
 have:(catF 1 (fun j=>[[aInts s]].getD j d) (fun i=>[aInts (l.getD i [])]))=fun i=>[aInts ((s :: l).getD i [])]:=by
  funext i
  unfold catF
  cases i with
  | zero=>rfl
  | succ i=>rw [if_neg (by omega),Nat.add_sub_cancel]; rfl
 unfold aIntss
 rw [this,List.length_cons,Nat.add_comm]
theorem t105 (f:Frm) (c:Nat) (left:List Int):Triple Try.prog 105 (s105 f c left):=by
  have key:∀ (k c:Nat) (left:List Int),f.columns.length - c<=k->Triple Try.prog 105 (s105 f c left):=by
    intro k
    induction k with
    | zero =>
      intro c left hk
      apply w105
      all_goals (rintro ⟨hs,hc,hl,hp⟩; have he:c=f.columns.length:=by omega)
      case o0=>intro _ E o u h; cases h; exact Rel.slN 1 _
      case o1=>intro _; rw [he,Nat.sub_self]; rfl
      case o2 =>
        intro _ i hi
        rw [he,Nat.sub_self] at hi ⊢
        have:i=0:=by (have h1:(laysC f 0 left).length=1:=rfl); omega
        subst this; rfl
      all_goals (intro h; exact absurd (by omega) (of_decide_eq_false h))
    | succ k ih =>
      intro c left hk
      apply w105
      all_goals (rintro ⟨hs,hc,hl,hp⟩)
      case o0=>intro _ E o u h; cases h; exact Rel.slN 1 _
      case o1=>intro h; rw [show c=f.columns.length by have:=of_decide_eq_true h; omega,Nat.sub_self]; rfl
      case o2 =>
        intro h i hi
        rw [show c=f.columns.length by have:=of_decide_eq_true h; omega,Nat.sub_self] at hi ⊢
        have:i=0:=by (have h1:(laysC f 0 left).length=1:=rfl); omega
        subst this; rfl
      all_goals (intro h; have he:c < f.columns.length:=(by have:=of_decide_eq_false h; omega); have h3:=hl.short hs; have hcl:=hs.columns)
      case o3=>exact Nat.zero_le _
      case o4=>exact h3
      case o5=>intro q hq; exact hl.nonneg q hq
      case o6=>intro q hq; exact hl.small hs q hq
      case o7 | o8=>rfl
      case o9=>exact Nat.zero_le _
      all_goals (intro x hx hx2; simp only [decide_eq_true_eq,decide_eq_false_iff_not] at hx2)
      all_goals (rw [setsFrom_nil] at hx2)
      all_goals (try rw [setsFrom_nil])
      case o75=>rw [show x=(setsP left).length by omega,laysTo_end he]
      case o76=>intro i hi; rw [show x=(setsP left).length by omega,laysTo_end he]
      all_goals (have hxl:x < prodL left:=(by rw [← setsP_len]; omega); have hsn:=setI_N hxl; have hset:=hl.isSet hxl; have hpts:=pts_bound hs hset; have hmem:=hl.set hxl; rw [← hsn] at hset hpts hmem)
      case o10 | o11=>omega
      case o12=>rfl
      case o13=>intro i hi; rfl
      case o14=>exact hset
      case o15=>exact he
      case o16 | o17=>omega
      all_goals (intro hsu; have hsu2:=hsu; simp only [Bool.not_eq_true',Bool.not_eq_false'] at hsu2)
      case o18 | o19=>first | omega | (have:=Nat.le_of_lt hxl; have:prodL left<=30:=hp; simp only [inI]; omega)
      case o20=>rw [laysTo_succ (by omega),laysOf_f hsu2,List.append_nil]
      case o21=>intro i hi; rw [laysTo_succ (by omega),laysOf_f hsu2,List.append_nil]
      case o22 | o23=>omega
      case o24 | o26 | o28=>omega
      case o25=>rfl
      case o27=>intro i hi; rfl
      all_goals (intro y hy hy2; simp only [decide_eq_true_eq,decide_eq_false_iff_not] at hy2)
      case o36 =>
        have a:=hmem y (by omega)
        have b:=hl.small hs y (by omega)
        have e:(setsP left).getD x []=setI left x:=rfl
        rw [restQ_self,e]; simp only [inI]; omega
      case o35 => have e : ((setsP left).getD x []).length = left.length := by (show (setI left x).length = _; rw [hsn, setN_len])
                  omega
      case o42 =>
        intro i hi
        refine rec_ei (fun h => ?_) (fun h => ?_)
        · unfold restQ
          by_cases h5:i < y
          · rw [if_pos h5,if_pos (by omega)]
          · rw [if_neg h5,if_neg (by omega)]
        · subst h
          rw [restQ_self]
          unfold restQ
          rw [if_pos (Nat.lt_succ_self _)]; rfl
      case o29 | o30 | o31 | o32 | o33 | o34 | o37 | o38 | o39 | o40 | o41 | o43 | o44=>first | omega | (simp only [inI]; omega)
      case o45 | o46=>first | omega | (simp only [inI]; omega)
      case o47=>exact (restL_len _ _).symm
      case o48=>intro i hi; rw [restL_len] at hi; rw [show y=left.length by omega,restQ_end hi]
      case o49=>exact ih _ _ (by omega)
      case o50=>omega
      case o51=>rw [hsn]; exact hl.rest hxl
      case o52=>exact rest_prod hl hxl hp
      case o53=>rfl
      case o54=>rw [laysIn_zero]
      case o55=>intro i hi; rw [laysIn_zero]
      case o56=>exact Nat.zero_le _
      all_goals (intro z hz hz2; simp only [decide_eq_true_eq,decide_eq_false_iff_not] at hz2)
      all_goals (have hml:(moreL f c left x).length=(laysC f (f.columns.length - (c + 1)) (restL left (setI left x))).length:=rfl)
      all_goals (have hm9:=moreL_len hs hl hp (c:=c) hxl; have hin:=laysIn_len hs hl hp (c:=c) hxl z)
      case o61 => have := moreL_at hs (c := c) (left := left) (x := x) (k := z) (by omega)
                  have e:(laysC f (f.columns.length - (c + 1)) (restL left (setI left x))).getD z []=(moreL f c left x).getD z []:=rfl
                  rw [e]; omega
      case o65=>rw [laysIn_succ (by omega),List.length_append]; rfl
      case o66 =>
        intro i hi
        rw [laysIn_succ (by omega)]
        exact catF_one (laysIn f c left x z) (setI left x :: (moreL f c left x).getD z []) [] (fun l=>[aIntss l]) rfl (fun _ _=>rfl) (congrArg (fun v=>[v]) (lay_cells _ _)) hi
      case o71=>rw [laysIn_end (by omega) (by omega) hsu2]
      case o72=>intro i hi; rw [laysIn_end (by omega) (by omega) hsu2]
      all_goals (first | omega | (simp only [inI]; omega))
  exact key _ c left (Nat.le_refl _)
end Go.Ab
namespace Go.Sh
open Go.Ab
end Go.Sh
namespace Go.Ab
open Go Go.RowKit Go.Proofs Go.Sh Go.En
end Go.Ab
namespace Go.Ab
open Go Go.RowKit Go.Proofs Go.Sh Go.En
end Go.Ab
namespace Go.Sh
open Go.Ab
def outC (f:Frm) (out:List Int) (i k:Nat):List Int:=if k < i then delW (col f k) (isIn out) else col f k
variable {f:Frm}
theorem outC_at (out:List Int) (i:Nat):outC f out (i + 1) i=delW (col f i) (isIn out):=if_pos (Nat.lt_succ_self i)
theorem outC_next (out:List Int) (i:Nat):outC f out i i=col f i:=if_neg (Nat.lt_irrefl i)
theorem outC_other {out:List Int} {i k:Nat} (h:k ≠ i):outC f out i k=outC f out (i + 1) k:=by
 unfold outC
 by_cases h1:k < i
 ·rw [if_pos h1,if_pos (by omega)]
 ·rw [if_neg h1,if_neg (by omega)]
theorem without_col (f:Frm) (out:List Int) (c:Nat):col (withoutF f out) c=delW (col f c) (isIn out):=col_without f out c
theorem outC_end {out:List Int} {k:Nat} (h:k < f.columns.length):outC f out f.columns.length k=col (withoutF f out) k:=by
 unfold outC; rw [if_pos h,without_col]
theorem without_len (f:Frm) (out:List Int):(withoutF f out).columns.length=f.columns.length:=by show (f.columns.map _).length=_; rw [List.length_map]
theorem without_good (hs:Sound f) (out:List Int):GoodLeft (withoutF f out) (stockTo f f.strips.length):=stock_good (f:=withoutF f out) (without_sound hs out)
theorem can_lays (hs:Sound f) (out:List Int):canP f out=decide (((laysC (withoutF f out) (withoutF f out).columns.length (stockTo f f.strips.length)).length:Int) > 0):=by
 unfold canP
 rw [laysA_whole (without_sound hs out),fm_isSome]; rfl
theorem ris_good (hs:Sound f) {l:List Int} (h:RisN f.pieces.length l):goodL f l:=by
 have h1:=ris_len h
 have h2:=hs.pieces
 exact goodL_mem (by omega) h.2
theorem refuse_ok (h:refuseE f=0):okFrm f=true:=by
 cases e1:okFrm f with
 | true=>rfl
 | false=>unfold refuseE at h; rw [e1] at h; exact absurd h (by rw [if_neg Bool.false_ne_true]; decide)
theorem refuse_lay (h:refuseE f=0):RisN f.pieces.length (refuseL f)/\penceP f (refuseL f)=lostN f/\canP f (refuseL f)=true/\(refP f).isSome=true /\ ∀ l,RisN f.pieces.length l->canP f l=true -> ¬ LtK f l (refuseL f):=by
 have h1:=refuse_ok h
 unfold refuseE at h
 rw [if_pos h1] at h
 unfold refuseL lostN
 rw [if_pos h1,if_pos h1]
 cases e:refP f with
 | none=>rw [e] at h; exact absurd h (by decide)
 | some x =>
  obtain ⟨a,b,c,d⟩:=refP_some (sound_of h1) e
  exact ⟨b,a.symm,c,rfl,d⟩
end Go.Sh
namespace Go.Ab
open Go Go.RowKit Go.Proofs Go.Sh Go.En
def s106 (f:Frm) (out:List Int):CallSpec:={ args:=[vFrm f,aInts out],res:=vFrm (withoutF f out),pre:=smallF f/\out.length<=big }
def c106 (f:Frm) (out:List Int) (id:Nat):CallSpec:=s31o f id
def h106a (f:Frm) (out:List Int):Hint:={ X:=Nat,M:=fun i=>[(6,iv i)],H:=fun i=>[(26,.vecx 27 1 f.columns.length (fun k=>[aInts (outC f out i k)]) i [aInts (col f i)])],I:=fun i=>i<=f.columns.length,mu:=fun i=>f.columns.length - i,x0:=(0:Nat),nx:=fun i=>i + 1 }
def h106b (f:Frm) (out:List Int) (i:Nat):Hint:={ X:=Nat,M:=fun k=>[(7,iv k)],H:=fun k=>[(26,.vecx 27 1 f.columns.length (fun j=>[aInts (outC f out i j)]) i [.vec 5001]),(5001,.vec 3 1 (keptW (col f i) (isIn out) k).length (fun p=>[iv ((keptW (col f i) (isIn out) k).getD p 0)]))],I:=fun k=>k<=(col f i).length,mu:=fun k=>(col f i).length - k,x0:=(0:Nat),nx:=fun k=>k + 1 }
def s53 (f:Frm) (out:List Int):CallSpec:={ args:=[vFrm f,aInts out],res:=bv (canP f out),pre:=Sound f/\prodF f f.strips.length<=30/\out.length<=big }
def c53 (f:Frm) (out:List Int):CallSpec:=s105 (withoutF f out) 0 (stockTo f f.strips.length)
end Go.Ab
namespace Go.Ab
open Go Go.RowKit Go.Proofs Go.Sh Go.En
theorem w106 (f:Frm) (out:List Int)
  (o0:smallF f/\List.length out <= big->0=(↑0:Int))
  (o1:smallF f/\List.length out <= big -> ∀ (i2:Nat),i2 < f.columns.length->i2 ≠ 0 -> [aInts (col f i2)] = [aInts (outC f out 0 i2)])
  (o2:smallF f/\List.length out <= big->0<=f.columns.length)
  (o3:smallF f/\List.length out <= big -> ∀ (x1:Nat),x1<=f.columns.length->decide ((x1:Int) < (↑(f.columns.length):Int))=true->0<=(x1:Int))
  (o4:smallF f/\List.length out <= big -> ∀ (x1:Nat),x1<=f.columns.length->decide ((x1:Int) < (↑(f.columns.length):Int))=true->(x1:Int) < (↑(f.columns.length):Int))
  (o5:smallF f/\List.length out <= big -> ∀ (x1:Nat),x1<=f.columns.length->decide ((x1:Int) < (↑(f.columns.length):Int))=true->x1 < f.columns.length)
  (o6:smallF f/\List.length out <= big -> ∀ (x1:Nat),x1<=f.columns.length->decide ((x1:Int) < (↑(f.columns.length):Int))=true->0=(↑0:Int))
  (o7:smallF f/\List.length out <= big -> ∀ (x1:Nat),x1<=f.columns.length->decide ((x1:Int) < (↑(f.columns.length):Int))=true->(keptW (col f x1) (isIn out) 0).length=0)
  (o8:smallF f/\List.length out <= big -> ∀ (x1:Nat),x1<=f.columns.length->decide ((x1:Int) < (↑(f.columns.length):Int))=true->0<=(col f x1).length)
  (o9:smallF f/\List.length out <= big -> ∀ (x1:Nat),x1<=f.columns.length->decide ((x1:Int) < (↑(f.columns.length):Int))=true -> ∀ (x8:Nat),x8<=(col f x1).length->0<=(x1:Int))
  (o10:smallF f/\List.length out <= big -> ∀ (x1:Nat),x1<=f.columns.length->decide ((x1:Int) < (↑(f.columns.length):Int))=true -> ∀ (x8:Nat),x8<=(col f x1).length->(x1:Int) < (↑(f.columns.length):Int))
  (o11:smallF f/\List.length out <= big -> ∀ (x1:Nat),x1<=f.columns.length->decide ((x1:Int) < (↑(f.columns.length):Int))=true -> ∀ (x8:Nat),x8<=(col f x1).length->decide ((x8:Int) < (↑((col f x1).length):Int))=true->0<=(x1:Int))
  (o12:smallF f/\List.length out <= big -> ∀ (x1:Nat),x1<=f.columns.length->decide ((x1:Int) < (↑(f.columns.length):Int))=true -> ∀ (x8:Nat),x8<=(col f x1).length->decide ((x8:Int) < (↑((col f x1).length):Int))=true->(x1:Int) < (↑(f.columns.length):Int))
  (o13:smallF f/\List.length out <= big -> ∀ (x1:Nat),x1<=f.columns.length->decide ((x1:Int) < (↑(f.columns.length):Int))=true -> ∀ (x8:Nat),x8<=(col f x1).length->decide ((x8:Int) < (↑((col f x1).length):Int))=true->0<=(x8:Int))
  (o14:smallF f/\List.length out <= big -> ∀ (x1:Nat),x1<=f.columns.length->decide ((x1:Int) < (↑(f.columns.length):Int))=true -> ∀ (x8:Nat),x8<=(col f x1).length->decide ((x8:Int) < (↑((col f x1).length):Int))=true->(x8:Int) < (↑((col f x1).length):Int))
  (o15:smallF f/\List.length out <= big -> ∀ (x1:Nat),x1<=f.columns.length->decide ((x1:Int) < (↑(f.columns.length):Int))=true -> ∀ (x8:Nat),x8<=(col f x1).length->decide ((x8:Int) < (↑((col f x1).length):Int))=true->(!isIn out ((col f x1).getD x8 0))=true->0<=(x1:Int))
  (o16:smallF f/\List.length out <= big -> ∀ (x1:Nat),x1<=f.columns.length->decide ((x1:Int) < (↑(f.columns.length):Int))=true -> ∀ (x8:Nat),x8<=(col f x1).length->decide ((x8:Int) < (↑((col f x1).length):Int))=true->(!isIn out ((col f x1).getD x8 0))=true->(x1:Int) < (↑(f.columns.length):Int))
  (o17:smallF f/\List.length out <= big -> ∀ (x1:Nat),x1<=f.columns.length->decide ((x1:Int) < (↑(f.columns.length):Int))=true -> ∀ (x8:Nat),x8<=(col f x1).length->decide ((x8:Int) < (↑((col f x1).length):Int))=true->(!isIn out ((col f x1).getD x8 0))=true->x1 < f.columns.length)
  (o18:smallF f/\List.length out <= big -> ∀ (x1:Nat),x1<=f.columns.length->decide ((x1:Int) < (↑(f.columns.length):Int))=true -> ∀ (x8:Nat),x8<=(col f x1).length->decide ((x8:Int) < (↑((col f x1).length):Int))=true->(!isIn out ((col f x1).getD x8 0))=true->0<=(x1:Int))
  (o19:smallF f/\List.length out <= big -> ∀ (x1:Nat),x1<=f.columns.length->decide ((x1:Int) < (↑(f.columns.length):Int))=true -> ∀ (x8:Nat),x8<=(col f x1).length->decide ((x8:Int) < (↑((col f x1).length):Int))=true->(!isIn out ((col f x1).getD x8 0))=true->(x1:Int) < (↑(f.columns.length):Int))
  (o20:smallF f/\List.length out <= big -> ∀ (x1:Nat),x1<=f.columns.length->decide ((x1:Int) < (↑(f.columns.length):Int))=true -> ∀ (x8:Nat),x8<=(col f x1).length->decide ((x8:Int) < (↑((col f x1).length):Int))=true->(!isIn out ((col f x1).getD x8 0))=true->0<=(x8:Int))
  (o21:smallF f/\List.length out <= big -> ∀ (x1:Nat),x1<=f.columns.length->decide ((x1:Int) < (↑(f.columns.length):Int))=true -> ∀ (x8:Nat),x8<=(col f x1).length->decide ((x8:Int) < (↑((col f x1).length):Int))=true->(!isIn out ((col f x1).getD x8 0))=true->(x8:Int) < (↑((col f x1).length):Int))
  (o22:smallF f/\List.length out <= big -> ∀ (x1:Nat),x1<=f.columns.length->decide ((x1:Int) < (↑(f.columns.length):Int))=true -> ∀ (x8:Nat),x8<=(col f x1).length->decide ((x8:Int) < (↑((col f x1).length):Int))=true->(!isIn out ((col f x1).getD x8 0))=true->(keptW (col f x1) (isIn out) x8).length + 1<=65536)
  (o23:smallF f/\List.length out <= big -> ∀ (x1:Nat),x1<=f.columns.length->decide ((x1:Int) < (↑(f.columns.length):Int))=true -> ∀ (x8:Nat),x8<=(col f x1).length->decide ((x8:Int) < (↑((col f x1).length):Int))=true->(!isIn out ((col f x1).getD x8 0))=true->0<=(x1:Int))
  (o24:smallF f/\List.length out <= big -> ∀ (x1:Nat),x1<=f.columns.length->decide ((x1:Int) < (↑(f.columns.length):Int))=true -> ∀ (x8:Nat),x8<=(col f x1).length->decide ((x8:Int) < (↑((col f x1).length):Int))=true->(!isIn out ((col f x1).getD x8 0))=true->(x1:Int) < (↑(f.columns.length):Int))
  (o25:smallF f/\List.length out <= big -> ∀ (x1:Nat),x1<=f.columns.length->decide ((x1:Int) < (↑(f.columns.length):Int))=true -> ∀ (x8:Nat),x8<=(col f x1).length->decide ((x8:Int) < (↑((col f x1).length):Int))=true->(!isIn out ((col f x1).getD x8 0))=true->x1 < f.columns.length)
  (o26:smallF f/\List.length out <= big -> ∀ (x1:Nat),x1<=f.columns.length->decide ((x1:Int) < (↑(f.columns.length):Int))=true -> ∀ (x8:Nat),x8<=(col f x1).length->decide ((x8:Int) < (↑((col f x1).length):Int))=true->(!isIn out ((col f x1).getD x8 0))=true->inI ((x8:Int) + 1))
  (o27:smallF f/\List.length out <= big -> ∀ (x1:Nat),x1<=f.columns.length->decide ((x1:Int) < (↑(f.columns.length):Int))=true -> ∀ (x8:Nat),x8<=(col f x1).length->decide ((x8:Int) < (↑((col f x1).length):Int))=true->(!isIn out ((col f x1).getD x8 0))=true->(x8:Int) + 1=(↑(x8 + 1):Int))
  (o28:smallF f/\List.length out <= big -> ∀ (x1:Nat),x1<=f.columns.length->decide ((x1:Int) < (↑(f.columns.length):Int))=true -> ∀ (x8:Nat),x8<=(col f x1).length->decide ((x8:Int) < (↑((col f x1).length):Int))=true->(!isIn out ((col f x1).getD x8 0))=true->(keptW (col f x1) (isIn out) x8).length + 1=(keptW (col f x1) (isIn out) (x8 + 1)).length)
  (o29:smallF f/\List.length out <= big -> ∀ (x1:Nat),x1<=f.columns.length->decide ((x1:Int) < (↑(f.columns.length):Int))=true -> ∀ (x8:Nat),x8<=(col f x1).length->decide ((x8:Int) < (↑((col f x1).length):Int))=true->(!isIn out ((col f x1).getD x8 0))=true -> ∀ (i18:Nat),i18 < (keptW (col f x1) (isIn out) x8).length + 1->catF (keptW (col f x1) (isIn out) x8).length (fun (p:Nat)=>[iv ((keptW (col f x1) (isIn out) x8).getD p 0)]) (fun (j:Nat)=>List.getD [[iv ((col f x1).getD x8 0)]] j (TI.za ti3)) i18 = [iv ((keptW (col f x1) (isIn out) (x8 + 1)).getD i18 0)])
  (o30:smallF f/\List.length out <= big -> ∀ (x1:Nat),x1<=f.columns.length->decide ((x1:Int) < (↑(f.columns.length):Int))=true -> ∀ (x8:Nat),x8<=(col f x1).length->decide ((x8:Int) < (↑((col f x1).length):Int))=true->(!isIn out ((col f x1).getD x8 0))=true->x8 + 1<=(col f x1).length)
  (o31:smallF f/\List.length out <= big -> ∀ (x1:Nat),x1<=f.columns.length->decide ((x1:Int) < (↑(f.columns.length):Int))=true -> ∀ (x8:Nat),x8<=(col f x1).length->decide ((x8:Int) < (↑((col f x1).length):Int))=true->(!isIn out ((col f x1).getD x8 0))=true->(col f x1).length - (x8 + 1) < (col f x1).length - x8)
  (o32:smallF f/\List.length out <= big -> ∀ (x1:Nat),x1<=f.columns.length->decide ((x1:Int) < (↑(f.columns.length):Int))=true -> ∀ (x8:Nat),x8<=(col f x1).length->decide ((x8:Int) < (↑((col f x1).length):Int))=true->(!isIn out ((col f x1).getD x8 0))=false->inI ((x8:Int) + 1))
  (o33:smallF f/\List.length out <= big -> ∀ (x1:Nat),x1<=f.columns.length->decide ((x1:Int) < (↑(f.columns.length):Int))=true -> ∀ (x8:Nat),x8<=(col f x1).length->decide ((x8:Int) < (↑((col f x1).length):Int))=true->(!isIn out ((col f x1).getD x8 0))=false->(x8:Int) + 1=(↑(x8 + 1):Int))
  (o34:smallF f/\List.length out <= big -> ∀ (x1:Nat),x1<=f.columns.length->decide ((x1:Int) < (↑(f.columns.length):Int))=true -> ∀ (x8:Nat),x8<=(col f x1).length->decide ((x8:Int) < (↑((col f x1).length):Int))=true->(!isIn out ((col f x1).getD x8 0))=false->(keptW (col f x1) (isIn out) x8).length=(keptW (col f x1) (isIn out) (x8 + 1)).length)
  (o35:smallF f/\List.length out <= big -> ∀ (x1:Nat),x1<=f.columns.length->decide ((x1:Int) < (↑(f.columns.length):Int))=true -> ∀ (x8:Nat),x8<=(col f x1).length->decide ((x8:Int) < (↑((col f x1).length):Int))=true->(!isIn out ((col f x1).getD x8 0))=false -> ∀ (i23:Nat),i23 < (keptW (col f x1) (isIn out) x8).length -> [iv ((keptW (col f x1) (isIn out) x8).getD i23 0)] = [iv ((keptW (col f x1) (isIn out) (x8 + 1)).getD i23 0)])
  (o36:smallF f/\List.length out <= big -> ∀ (x1:Nat),x1<=f.columns.length->decide ((x1:Int) < (↑(f.columns.length):Int))=true -> ∀ (x8:Nat),x8<=(col f x1).length->decide ((x8:Int) < (↑((col f x1).length):Int))=true->(!isIn out ((col f x1).getD x8 0))=false->x8 + 1<=(col f x1).length)
  (o37:smallF f/\List.length out <= big -> ∀ (x1:Nat),x1<=f.columns.length->decide ((x1:Int) < (↑(f.columns.length):Int))=true -> ∀ (x8:Nat),x8<=(col f x1).length->decide ((x8:Int) < (↑((col f x1).length):Int))=true->(!isIn out ((col f x1).getD x8 0))=false->(col f x1).length - (x8 + 1) < (col f x1).length - x8)
  (o38:smallF f/\List.length out <= big -> ∀ (x1:Nat),x1<=f.columns.length->decide ((x1:Int) < (↑(f.columns.length):Int))=true -> ∀ (x8:Nat),x8<=(col f x1).length->decide ((x8:Int) < (↑((col f x1).length):Int))=false -> ∀ (i25:Nat),i25 < f.columns.length->i25 ≠ x1 -> [aInts (outC f out x1 i25)] = [aInts (outC f out (x1 + 1) i25)])
  (o39:smallF f/\List.length out <= big -> ∀ (x1:Nat),x1<=f.columns.length->decide ((x1:Int) < (↑(f.columns.length):Int))=true -> ∀ (x8:Nat),x8<=(col f x1).length->decide ((x8:Int) < (↑((col f x1).length):Int))=false->(keptW (col f x1) (isIn out) x8).length=(outC f out (x1 + 1) x1).length)
  (o40:smallF f/\List.length out <= big -> ∀ (x1:Nat),x1<=f.columns.length->decide ((x1:Int) < (↑(f.columns.length):Int))=true -> ∀ (x8:Nat),x8<=(col f x1).length->decide ((x8:Int) < (↑((col f x1).length):Int))=false -> ∀ (i28:Nat),i28 < (outC f out (x1 + 1) x1).length -> [iv ((keptW (col f x1) (isIn out) x8).getD i28 0)] = [iv ((outC f out (x1 + 1) x1).getD i28 0)])
  (o41:smallF f/\List.length out <= big -> ∀ (x1:Nat),x1<=f.columns.length->decide ((x1:Int) < (↑(f.columns.length):Int))=true -> ∀ (x8:Nat),x8<=(col f x1).length->decide ((x8:Int) < (↑((col f x1).length):Int))=false->inI ((x1:Int) + 1))
  (o42:smallF f/\List.length out <= big -> ∀ (x1:Nat),x1<=f.columns.length->decide ((x1:Int) < (↑(f.columns.length):Int))=true -> ∀ (x8:Nat),x8<=(col f x1).length->decide ((x8:Int) < (↑((col f x1).length):Int))=false->(x1:Int) + 1=(↑(x1 + 1):Int))
  (o43:smallF f/\List.length out <= big -> ∀ (x1:Nat),x1<=f.columns.length->decide ((x1:Int) < (↑(f.columns.length):Int))=true -> ∀ (x8:Nat),x8<=(col f x1).length->decide ((x8:Int) < (↑((col f x1).length):Int))=false->(outC f out (x1 + 1) (x1 + 1)).length=(col f (x1 + 1)).length)
  (o44:smallF f/\List.length out <= big -> ∀ (x1:Nat),x1<=f.columns.length->decide ((x1:Int) < (↑(f.columns.length):Int))=true -> ∀ (x8:Nat),x8<=(col f x1).length->decide ((x8:Int) < (↑((col f x1).length):Int))=false -> ∀ (i33:Nat),i33 < (col f (x1 + 1)).length -> [iv ((outC f out (x1 + 1) (x1 + 1)).getD i33 0)] = [iv ((col f (x1 + 1)).getD i33 0)])
  (o45:smallF f/\List.length out <= big -> ∀ (x1:Nat),x1<=f.columns.length->decide ((x1:Int) < (↑(f.columns.length):Int))=true -> ∀ (x8:Nat),x8<=(col f x1).length->decide ((x8:Int) < (↑((col f x1).length):Int))=false->x1 + 1<=f.columns.length)
  (o46:smallF f/\List.length out <= big -> ∀ (x1:Nat),x1<=f.columns.length->decide ((x1:Int) < (↑(f.columns.length):Int))=true -> ∀ (x8:Nat),x8<=(col f x1).length->decide ((x8:Int) < (↑((col f x1).length):Int))=false->f.columns.length - (x1 + 1) < f.columns.length - x1)
  (o47:smallF f/\List.length out <= big -> ∀ (x1:Nat),x1<=f.columns.length->decide ((x1:Int) < (↑(f.columns.length):Int))=false -> ∀ (i35:Nat),i35 < f.columns.length->i35 ≠ x1 -> [aInts (outC f out x1 i35)] = [aInts (col (withoutF f out) i35)])
  (o48:smallF f/\List.length out <= big -> ∀ (x1:Nat),x1<=f.columns.length->decide ((x1:Int) < (↑(f.columns.length):Int))=false->(col f x1).length=(col (withoutF f out) x1).length)
  (o49:smallF f/\List.length out <= big -> ∀ (x1:Nat),x1<=f.columns.length->decide ((x1:Int) < (↑(f.columns.length):Int))=false -> ∀ (i38:Nat),i38 < (col (withoutF f out) x1).length -> [iv ((col f x1).getD i38 0)] = [iv ((col (withoutF f out) x1).getD i38 0)])
  (o50:smallF f/\List.length out <= big -> ∀ (x1:Nat),x1<=f.columns.length->decide ((x1:Int) < (↑(f.columns.length):Int))=false->f.length=(withoutF f out).length)
  (o51:smallF f/\List.length out <= big -> ∀ (x1:Nat),x1<=f.columns.length->decide ((x1:Int) < (↑(f.columns.length):Int))=false->f.slack=(withoutF f out).slack)
  (o52:smallF f/\List.length out <= big -> ∀ (x1:Nat),x1<=f.columns.length->decide ((x1:Int) < (↑(f.columns.length):Int))=false->f.strips.length=(withoutF f out).strips.length)
  (o53:smallF f/\List.length out <= big -> ∀ (x1:Nat),x1<=f.columns.length->decide ((x1:Int) < (↑(f.columns.length):Int))=false -> ∀ (i40:Nat),i40 < (withoutF f out).strips.length->cStrip (stp f i40)=cStrip (stp (withoutF f out) i40))
  (o54:smallF f/\List.length out <= big -> ∀ (x1:Nat),x1<=f.columns.length->decide ((x1:Int) < (↑(f.columns.length):Int))=false->f.pieces.length=(withoutF f out).pieces.length)
  (o55:smallF f/\List.length out <= big -> ∀ (x1:Nat),x1<=f.columns.length->decide ((x1:Int) < (↑(f.columns.length):Int))=false -> ∀ (i42:Nat),i42 < (withoutF f out).pieces.length->cPiece (pc f i42)=cPiece (pc (withoutF f out) i42))
  (o56:smallF f/\List.length out <= big -> ∀ (x1:Nat),x1<=f.columns.length->decide ((x1:Int) < (↑(f.columns.length):Int))=false->f.columns.length=(withoutF f out).columns.length) :
  Triple Try.prog 106 (s106 f out):=by
 refine triple_of Try.func106 rfl Try.call106 T0_ok _ rfl rfl rfl rfl (Nat.le_of_ble_eq_true (by kernel_rfl)) (fun _ _ _ _ h=>h) ?_
 intro hpre C hC _ hE
 obtain ⟨P,w0,E0,av,hA,ro,df⟩:=C
 obtain ⟨rfl,rfl,rfl⟩:=hC
 refine swp_seq ?_
 refine zR [1,2,4] [0,8] (Ak 2 tv) ?_
 refine swp_seq ?_
 refine zC ([(1,CallSpec.eq (c106 f out 24) [true])]) [1,2,4,5] [0,8,32,24,25,26] (Ak 1 (An (An (An (zr (AV.agg (cFrm f))) tv) (An (t31o (f) (24)) (An hpre.1 (Ak 1 (fun (i0:Env)=>tv))))) (Ak 2 tv))) ?_
 refine swp_seq ?_
 refine swp_seq ?_
 refine zR [1,2,4,5,6] [0,8,32,24,25,26] (Ak 1 tv) ?_
 refine swp_block ?_
 refine zL (Hint.ann (h106a f out) [(1,aInts out),(2,AV.ptr 0 []),(4,AV.ptr 8 []),(5,AV.ptr 32 [])] [(0,OB.cells 26 (cFrm f)),(8,OB.cells 26 [iv 0,iv 0,nilv,nilv,nilv]),(32,OB.cells 26 [iv f.length,iv f.slack,AV.vec 24,AV.vec 25,AV.vec 26]),(24,OB.vec 65 2 f.strips.length fun (i:Nat)=>cStrip (stp f i)),(25,OB.vec 46 3 f.pieces.length fun (i:Nat)=>cPiece (pc f i))] 10056) (zE hE [] [(0,.same 0),(8,.same 8),(32,.same 32),(24,.same 24),(25,.same 25),(26,.same 26)] [1] [0,8,24,25] (An (An (An (zr (aInts out)) (zr true)) (An (An (zr (some (Src.same 0))) (zr nilP)) (An (An (zr (some (Src.same 8))) (zr nilP)) (An (An (zr (some (Src.same 32))) (zr nilP)) (An (An (ci (o0 hpre)) (zr nilN)) tv))))) (An (An (An (zr (OB.cells 26 (cFrm f))) (zr true)) (An (An (zr (OB.cells 26 [iv 0,iv 0,nilv,nilv,nilv])) (zr true)) (An (An (zr 26) (An (An (An (zr (iv f.length)) (zr nilN)) (An (An (zr (iv f.slack)) (zr nilN)) (An (zr (some (Src.same 24))) (An (zr (some (Src.same 25))) (An (zr (some (Src.same 26))) tv))))) (zr true))) (An (An (zr (OB.vec 65 2 f.strips.length fun (i:Nat)=>cStrip (stp f i))) (zr true)) (An (An (zr (OB.vec 46 3 f.pieces.length fun (i:Nat)=>cPiece (pc f i))) (zr true)) (An (An (zr 27) (An (zr 1) (An (zr f.columns.length) (An (fun (i2:Nat)=>(fun (y3:i2 < f.columns.length)=>(fun (y4:i2 ≠ 0)=>(o1 hpre i2 y3 y4)))) (An (An (An (zr 1) (An (zr (col f 0).length) (fun (i5:Nat)=>(fun (y6:i5 < (col f 0).length)=>(zr ([iv ((col f 0).getD i5 0)])))))) tv) (zr true)))))) tv)))))) (An (zr true) (zr true))))) (o2 hpre) (fun (x1:Nat) hx1 => ?_)
 refine swp_seq ?_
 refine swp_seq ?_
 refine zR [1,2,4,5,6,14] [0,8,32,24,25,26] (Ak 5 tv) ?_
 refine zI (decide ((x1:Int) < (↑(f.columns.length):Int))) (fun y7 => ?_) (fun y7 => ?_)
 ·refine swp_skip ?_
  refine swp_seq ?_
  refine swp_block ?_
  refine swp_seq ?_
  refine zR [1,2,4,5,6] [0,8,32,24,25,26] (Ak 3 (An (An (o3 hpre x1 hx1 y7) (o4 hpre x1 hx1 y7)) (An (An (zr x1) (An (o5 hpre x1 hx1 y7) tv)) tv))) ?_
  refine swp_seq ?_
  refine zR [1,2,4,5,6,7] [0,8,32,24,25,26] (Ak 1 tv) ?_
  refine swp_block ?_
  refine zL (Hint.ann (h106b f out x1) [(1,aInts out),(2,AV.ptr 0 []),(4,AV.ptr 8 []),(5,AV.ptr 32 []),(6,iv (x1:Int))] [(0,OB.cells 26 (cFrm f)),(8,OB.cells 26 [iv 0,iv 0,nilv,nilv,nilv]),(32,OB.cells 26 [iv f.length,iv f.slack,AV.vec 24,AV.vec 25,AV.vec 26]),(24,OB.vec 65 2 f.strips.length fun (i:Nat)=>cStrip (stp f i)),(25,OB.vec 46 3 f.pieces.length fun (i:Nat)=>cPiece (pc f i))] 20144) (zE hE [] [(0,.same 0),(8,.same 8),(32,.same 32),(24,.same 24),(25,.same 25),(26,.same 26),(5001,.nil)] [1,6] [0,8,24,25] (An (An (An (zr (aInts out)) (zr true)) (An (An (zr (some (Src.same 0))) (zr nilP)) (An (An (zr (some (Src.same 8))) (zr nilP)) (An (An (zr (some (Src.same 32))) (zr nilP)) (An (An (zr (iv (x1:Int))) (zr true)) (An (An (ci (o6 hpre x1 hx1 y7)) (zr nilN)) tv)))))) (An (An (An (zr (OB.cells 26 (cFrm f))) (zr true)) (An (An (zr (OB.cells 26 [iv 0,iv 0,nilv,nilv,nilv])) (zr true)) (An (An (zr 26) (An (An (An (zr (iv f.length)) (zr nilN)) (An (An (zr (iv f.slack)) (zr nilN)) (An (zr (some (Src.same 24))) (An (zr (some (Src.same 25))) (An (zr (some (Src.same 26))) tv))))) (zr true))) (An (An (zr (OB.vec 65 2 f.strips.length fun (i:Nat)=>cStrip (stp f i))) (zr true)) (An (An (zr (OB.vec 46 3 f.pieces.length fun (i:Nat)=>cPiece (pc f i))) (zr true)) (An (An (zr 27) (An (zr 1) (An (zr f.columns.length) (An (zr x1) (An (fun (i9:Nat)=>(fun (y10:i9 < f.columns.length)=>(fun (y11:i9 ≠ x1)=>(zr ([aInts (outC f out x1 i9)]))))) (An (An (zr (some Src.nil)) tv) (zr true))))))) (An (o7 hpre x1 hx1 y7) tv))))))) (An (zr true) (zr true))))) (o8 hpre x1 hx1 y7) (fun (x8:Nat) hx8 => ?_)
  refine swp_seq ?_
  refine swp_seq ?_
  refine zR [1,2,4,5,6,7,28] [0,8,32,24,25,26,5001] (Ak 4 (An (An (o9 hpre x1 hx1 y7 x8 hx8) (o10 hpre x1 hx1 y7 x8 hx8)) (Ak 3 tv))) ?_
  refine zI (decide ((x8:Int) < (↑((col f x1).length):Int))) (fun y12 => ?_) (fun y12 => ?_)
  ·refine swp_skip ?_
   refine swp_seq ?_
   refine swp_block ?_
   refine swp_seq ?_
   refine zC ([(9,CallSpec.eq (s135 out ((col f x1).getD x8 0)) [true,true])]) [1,2,4,5,6,7,41] [0,8,32,24,25,26,5001] (Ak 4 (An (An (o11 hpre x1 hx1 y7 x8 hx8 y12) (o12 hpre x1 hx1 y7 x8 hx8 y12)) (Ak 2 (An (An (o13 hpre x1 hx1 y7 x8 hx8 y12) (o14 hpre x1 hx1 y7 x8 hx8 y12)) (Ak 1 (An (An (An (zr (aInts out)) (An (zr (iv ((col f x1).getD x8 0))) tv)) (An (t135 (out) ((col f x1).getD x8 0)) (An hpre.2 (Ak 1 (fun (i13:Env)=>tv))))) (Ak 1 tv))))))) ?_
   refine zI (!isIn out ((col f x1).getD x8 0)) (fun y14 => ?_) (fun y14 => ?_)
   ·refine zR [1,2,4,5,6,7] [0,8,32,24,25,26,20432] (Ak 6 (An (An (o15 hpre x1 hx1 y7 x8 hx8 y12 y14) (o16 hpre x1 hx1 y7 x8 hx8 y12 y14)) (An (An (zr x1) (An (o17 hpre x1 hx1 y7 x8 hx8 y12 y14) tv)) (Ak 3 (An (An (o18 hpre x1 hx1 y7 x8 hx8 y12 y14) (o19 hpre x1 hx1 y7 x8 hx8 y12 y14)) (Ak 2 (An (An (o20 hpre x1 hx1 y7 x8 hx8 y12 y14) (o21 hpre x1 hx1 y7 x8 hx8 y12 y14)) (Ak 2 (An (o22 hpre x1 hx1 y7 x8 hx8 y12 y14) (An (An (o23 hpre x1 hx1 y7 x8 hx8 y12 y14) (o24 hpre x1 hx1 y7 x8 hx8 y12 y14)) (An (An (zr x1) (An (o25 hpre x1 hx1 y7 x8 hx8 y12 y14) tv)) tv))))))))))) ?_
    refine zR [1,2,4,5,6,7] [0,8,32,24,25,26,20432] (Ak 1 (An (o26 hpre x1 hx1 y7 x8 hx8 y12 y14) (Ak 1 tv))) ?_
    exact zn (zE hE [] [(0,.same 0),(8,.same 8),(32,.same 32),(24,.same 24),(25,.same 25),(26,.same 26),(5001,.same 20432)] [1,6] [0,8,24,25] (An (An (An (zr (aInts out)) (zr true)) (An (An (zr (some (Src.same 0))) (zr nilP)) (An (An (zr (some (Src.same 8))) (zr nilP)) (An (An (zr (some (Src.same 32))) (zr nilP)) (An (An (zr (iv (x1:Int))) (zr true)) (An (An (ci (o27 hpre x1 hx1 y7 x8 hx8 y12 y14)) (zr nilN)) tv)))))) (An (An (An (zr (OB.cells 26 (cFrm f))) (zr true)) (An (An (zr (OB.cells 26 [iv 0,iv 0,nilv,nilv,nilv])) (zr true)) (An (An (zr 26) (An (An (An (zr (iv f.length)) (zr nilN)) (An (An (zr (iv f.slack)) (zr nilN)) (An (zr (some (Src.same 24))) (An (zr (some (Src.same 25))) (An (zr (some (Src.same 26))) tv))))) (zr true))) (An (An (zr (OB.vec 65 2 f.strips.length fun (i:Nat)=>cStrip (stp f i))) (zr true)) (An (An (zr (OB.vec 46 3 f.pieces.length fun (i:Nat)=>cPiece (pc f i))) (zr true)) (An (An (zr 27) (An (zr 1) (An (zr f.columns.length) (An (zr x1) (An (fun (i15:Nat)=>(fun (y16:i15 < f.columns.length)=>(fun (y17:i15 ≠ x1)=>(zr ([aInts (outC f out x1 i15)]))))) (An (An (zr (some (Src.same 20432))) tv) (zr true))))))) (An (An (zr 3) (An (zr 1) (An (o28 hpre x1 hx1 y7 x8 hx8 y12 y14) (fun (i18:Nat)=>(fun (y19:i18 < (keptW (col f x1) (isIn out) x8).length + 1)=>(o29 hpre x1 hx1 y7 x8 hx8 y12 y14 i18 y19)))))) tv))))))) (An (zr true) (zr true))))) (o30 hpre x1 hx1 y7 x8 hx8 y12 y14) (o31 hpre x1 hx1 y7 x8 hx8 y12 y14)
   ·refine swp_skip ?_
    refine zR [1,2,4,5,6,7] [0,8,32,24,25,26,5001] (Ak 1 (An (o32 hpre x1 hx1 y7 x8 hx8 y12 y14) (Ak 1 tv))) ?_
    exact zn (zE hE [] [(0,.same 0),(8,.same 8),(32,.same 32),(24,.same 24),(25,.same 25),(26,.same 26),(5001,.same 5001)] [1,6] [0,8,24,25] (An (An (An (zr (aInts out)) (zr true)) (An (An (zr (some (Src.same 0))) (zr nilP)) (An (An (zr (some (Src.same 8))) (zr nilP)) (An (An (zr (some (Src.same 32))) (zr nilP)) (An (An (zr (iv (x1:Int))) (zr true)) (An (An (ci (o33 hpre x1 hx1 y7 x8 hx8 y12 y14)) (zr nilN)) tv)))))) (An (An (An (zr (OB.cells 26 (cFrm f))) (zr true)) (An (An (zr (OB.cells 26 [iv 0,iv 0,nilv,nilv,nilv])) (zr true)) (An (An (zr 26) (An (An (An (zr (iv f.length)) (zr nilN)) (An (An (zr (iv f.slack)) (zr nilN)) (An (zr (some (Src.same 24))) (An (zr (some (Src.same 25))) (An (zr (some (Src.same 26))) tv))))) (zr true))) (An (An (zr (OB.vec 65 2 f.strips.length fun (i:Nat)=>cStrip (stp f i))) (zr true)) (An (An (zr (OB.vec 46 3 f.pieces.length fun (i:Nat)=>cPiece (pc f i))) (zr true)) (An (An (zr 27) (An (zr 1) (An (zr f.columns.length) (An (zr x1) (An (fun (i20:Nat)=>(fun (y21:i20 < f.columns.length)=>(fun (y22:i20 ≠ x1)=>(zr ([aInts (outC f out x1 i20)]))))) (An (An (zr (some (Src.same 5001))) tv) (zr true))))))) (An (An (zr 3) (An (zr 1) (An (o34 hpre x1 hx1 y7 x8 hx8 y12 y14) (fun (i23:Nat)=>(fun (y24:i23 < (keptW (col f x1) (isIn out) x8).length)=>(o35 hpre x1 hx1 y7 x8 hx8 y12 y14 i23 y24)))))) tv))))))) (An (zr true) (zr true))))) (o36 hpre x1 hx1 y7 x8 hx8 y12 y14) (o37 hpre x1 hx1 y7 x8 hx8 y12 y14)
  ·refine swp_exit ?_
   refine swp_ent (zE (st2:=ASt.mk [(1,aInts out),(2,AV.ptr 0 []),(4,AV.ptr 8 []),(5,AV.ptr 32 []),(6,iv (x1:Int)),(7,iv (x8:Int)),(28,bv (decide ((x8:Int) < (↑((col f x1).length):Int))))] [(26,OB.vec 27 1 f.columns.length fun (k:Nat)=>[aInts (outC f out (x1 + 1) k)]),(0,OB.cells 26 (cFrm f)),(8,OB.cells 26 [iv 0,iv 0,nilv,nilv,nilv]),(32,OB.cells 26 [iv f.length,iv f.slack,AV.vec 24,AV.vec 25,AV.vec 26]),(24,OB.vec 65 2 f.strips.length fun (i:Nat)=>cStrip (stp f i)),(25,OB.vec 46 3 f.pieces.length fun (i:Nat)=>cPiece (pc f i))] 20208) hE [5001] [(0,.same 0),(8,.same 8),(32,.same 32),(24,.same 24),(25,.same 25),(26,.same 26)] [1,6,7,28] [0,8,24,25] (An (An (An (zr (aInts out)) (zr true)) (An (An (zr (some (Src.same 0))) (zr nilP)) (An (An (zr (some (Src.same 8))) (zr nilP)) (An (An (zr (some (Src.same 32))) (zr nilP)) (An (An (zr (iv (x1:Int))) (zr true)) (An (An (zr (iv (x8:Int))) (zr true)) (An (An (zr (bv (decide ((x8:Int) < (↑((col f x1).length):Int))))) (zr true)) tv))))))) (An (An (An (zr 27) (An (zr 1) (An (zr f.columns.length) (An (fun (i25:Nat)=>(fun (y26:i25 < f.columns.length)=>(fun (y27:i25 ≠ x1)=>(o38 hpre x1 hx1 y7 x8 hx8 y12 i25 y26 y27)))) (An (An (An (zr 1) (An (o39 hpre x1 hx1 y7 x8 hx8 y12) (fun (i28:Nat)=>(fun (y29:i28 < (outC f out (x1 + 1) x1).length)=>(o40 hpre x1 hx1 y7 x8 hx8 y12 i28 y29))))) tv) (An (zr true) (zr true))))))) (An (An (zr (OB.cells 26 (cFrm f))) (zr true)) (An (An (zr (OB.cells 26 [iv 0,iv 0,nilv,nilv,nilv])) (zr true)) (An (An (zr 26) (An (An (An (zr (iv f.length)) (zr nilN)) (An (An (zr (iv f.slack)) (zr nilN)) (An (zr (some (Src.same 24))) (An (zr (some (Src.same 25))) (An (zr (some (Src.same 26))) tv))))) (zr true))) (An (An (zr (OB.vec 65 2 f.strips.length fun (i:Nat)=>cStrip (stp f i))) (zr true)) (An (An (zr (OB.vec 46 3 f.pieces.length fun (i:Nat)=>cPiece (pc f i))) (zr true)) tv)))))) (An (zr true) (zr true))))) ?_
   refine zR [1,2,4,5,6] [0,8,32,24,25,26] (Ak 1 (An (o41 hpre x1 hx1 y7 x8 hx8 y12) (Ak 1 tv))) ?_
   exact zn (zE hE [] [(0,.same 0),(8,.same 8),(32,.same 32),(24,.same 24),(25,.same 25),(26,.same 26)] [1] [0,8,24,25] (An (An (An (zr (aInts out)) (zr true)) (An (An (zr (some (Src.same 0))) (zr nilP)) (An (An (zr (some (Src.same 8))) (zr nilP)) (An (An (zr (some (Src.same 32))) (zr nilP)) (An (An (ci (o42 hpre x1 hx1 y7 x8 hx8 y12)) (zr nilN)) tv))))) (An (An (An (zr (OB.cells 26 (cFrm f))) (zr true)) (An (An (zr (OB.cells 26 [iv 0,iv 0,nilv,nilv,nilv])) (zr true)) (An (An (zr 26) (An (An (An (zr (iv f.length)) (zr nilN)) (An (An (zr (iv f.slack)) (zr nilN)) (An (zr (some (Src.same 24))) (An (zr (some (Src.same 25))) (An (zr (some (Src.same 26))) tv))))) (zr true))) (An (An (zr (OB.vec 65 2 f.strips.length fun (i:Nat)=>cStrip (stp f i))) (zr true)) (An (An (zr (OB.vec 46 3 f.pieces.length fun (i:Nat)=>cPiece (pc f i))) (zr true)) (An (An (zr 27) (An (zr 1) (An (zr f.columns.length) (An (fun (i30:Nat)=>(fun (y31:i30 < f.columns.length)=>(fun (y32:i30 ≠ x1 + 1)=>(zr ([aInts (outC f out (x1 + 1) i30)]))))) (An (An (An (zr 1) (An (o43 hpre x1 hx1 y7 x8 hx8 y12) (fun (i33:Nat)=>(fun (y34:i33 < (col f (x1 + 1)).length)=>(o44 hpre x1 hx1 y7 x8 hx8 y12 i33 y34))))) tv) (zr true)))))) tv)))))) (An (zr true) (zr true))))) (o45 hpre x1 hx1 y7 x8 hx8 y12) (o46 hpre x1 hx1 y7 x8 hx8 y12)
 ·refine swp_exit ?_
  refine swp_seq ?_
  refine swp_ent (zE (st2:=ASt.mk [(1,aInts out),(2,AV.ptr 0 []),(4,AV.ptr 8 []),(5,AV.ptr 32 []),(6,iv (x1:Int)),(14,bv (decide ((x1:Int) < (↑(f.columns.length):Int))))] [(26,OB.vec 27 1 f.columns.length fun (k:Nat)=>[aInts (col (withoutF f out) k)]),(0,OB.cells 26 (cFrm f)),(8,OB.cells 26 [iv 0,iv 0,nilv,nilv,nilv]),(32,OB.cells 26 [iv f.length,iv f.slack,AV.vec 24,AV.vec 25,AV.vec 26]),(24,OB.vec 65 2 f.strips.length fun (i:Nat)=>cStrip (stp f i)),(25,OB.vec 46 3 f.pieces.length fun (i:Nat)=>cPiece (pc f i))] 10096) hE [] [(0,.same 0),(8,.same 8),(32,.same 32),(24,.same 24),(25,.same 25),(26,.same 26)] [1,6,14] [0,8,24,25] (An (An (An (zr (aInts out)) (zr true)) (An (An (zr (some (Src.same 0))) (zr nilP)) (An (An (zr (some (Src.same 8))) (zr nilP)) (An (An (zr (some (Src.same 32))) (zr nilP)) (An (An (zr (iv (x1:Int))) (zr true)) (An (An (zr (bv (decide ((x1:Int) < (↑(f.columns.length):Int))))) (zr true)) tv)))))) (An (An (An (zr 27) (An (zr 1) (An (zr f.columns.length) (An (fun (i35:Nat)=>(fun (y36:i35 < f.columns.length)=>(fun (y37:i35 ≠ x1)=>(o47 hpre x1 hx1 y7 i35 y36 y37)))) (An (An (An (zr 1) (An (o48 hpre x1 hx1 y7) (fun (i38:Nat)=>(fun (y39:i38 < (col (withoutF f out) x1).length)=>(o49 hpre x1 hx1 y7 i38 y39))))) tv) (An (zr true) (zr true))))))) (An (An (zr (OB.cells 26 (cFrm f))) (zr true)) (An (An (zr (OB.cells 26 [iv 0,iv 0,nilv,nilv,nilv])) (zr true)) (An (An (zr 26) (An (An (An (zr (iv f.length)) (zr nilN)) (An (An (zr (iv f.slack)) (zr nilN)) (An (zr (some (Src.same 24))) (An (zr (some (Src.same 25))) (An (zr (some (Src.same 26))) tv))))) (zr true))) (An (An (zr (OB.vec 65 2 f.strips.length fun (i:Nat)=>cStrip (stp f i))) (zr true)) (An (An (zr (OB.vec 46 3 f.pieces.length fun (i:Nat)=>cPiece (pc f i))) (zr true)) tv)))))) (An (zr true) (zr true))))) ?_
  refine zR [4] [8,24,25,26] (Ak 2 tv) ?_
  refine swp_ret ?_
  exact zT [24,25,26] (An (Ak 1 tv) (An (An (An (ci (o50 hpre x1 hx1 y7)) (zr nilN)) (An (An (ci (o51 hpre x1 hx1 y7)) (zr nilN)) (An (An (zr 2) (An (o52 hpre x1 hx1 y7) (fun (i40:Nat)=>(fun (y41:i40 < (withoutF f out).strips.length)=>(o53 hpre x1 hx1 y7 i40 y41))))) (An (An (zr 3) (An (o54 hpre x1 hx1 y7) (fun (i42:Nat)=>(fun (y43:i42 < (withoutF f out).pieces.length)=>(o55 hpre x1 hx1 y7 i42 y43))))) (An (An (zr 1) (An (o56 hpre x1 hx1 y7) (fun (i44:Nat)=>(fun (y45:i44 < (withoutF f out).columns.length)=>(zr ([aInts (col (withoutF f out) i44)])))))) tv))))) (An (zr true) (An (zr true) (zr true)))))
theorem t106 (f:Frm) (out:List Int):Triple Try.prog 106 (s106 f out):=by
 apply w106
 all_goals (rintro ⟨hp,ho⟩; have hc:=hp.2.2.1)
 case o0=>rfl
 case o1=>intro i hi h0; rfl
 case o2=>exact Nat.zero_le _
 all_goals (intro x hx h; simp only [decide_eq_true_eq,decide_eq_false_iff_not] at h)
 case o47=>intro i hi hij; rw [show x=f.columns.length by omega,outC_end hi]
 case o48 =>
  have e:col f x = []:=getD_ge _ _ (by omega)
  have e2:col (withoutF f out) x = []:=by rw [without_col,e]; rfl
  rw [e,e2]
 case o49 =>
  intro i hi
  have e:col f x = []:=getD_ge _ _ (by omega)
  rw [without_col,e] at hi
  exact absurd hi (Nat.not_lt_zero _)
 case o56=>exact (without_len f out).symm
 case o50 | o51 | o52 | o54=>rfl
 case o53 | o55=>intro i hi; rfl
 case o3 | o4 | o5=>omega
 case o6 | o7=>rfl
 case o8=>exact Nat.zero_le _
 all_goals (have h4:=hp.2.2.2 x; intro y hy)
 case o9 | o10=>omega
 all_goals (intro h2; simp only [decide_eq_true_eq,decide_eq_false_iff_not] at h2)
 case o38=>intro i hi hij; rw [outC_other hij]
 case o39=>rw [outC_at,keptW_full (by omega)]
 case o40=>intro i hi; rw [outC_at,keptW_full (by omega)]
 case o43=>rw [outC_next]
 case o44=>intro i hi; rw [outC_next]
 case o11 | o12 | o13 | o14 | o41 | o42 | o45 | o46=>first | omega | (simp only [inI]; omega)
 all_goals (intro h3; have hk:=keptW_len (col f x) (isIn out) y)
 case o28=>rw [keptW_f (by omega) (by simpa using h3),List.length_append]; rfl
 case o29=>intro i hi; rw [keptW_f (by omega) (by simpa using h3)]; exact catF_one _ _ 0 (fun z=>[iv z]) rfl (fun _ _=>rfl) rfl hi
 case o34=>rw [keptW_t (by omega) (by simpa using h3)]
 case o35=>intro i hi; rw [keptW_t (by omega) (by simpa using h3)]
 all_goals (first | omega | (simp only [inI]; omega))
theorem w53 (f:Frm) (out:List Int)
  (o0:Sound f/\prodF f f.strips.length<=30/\List.length out <= big->smallF f)
  (o1:Sound f/\prodF f f.strips.length<=30/\List.length out <= big->List.length out <= big)
  (o2:Sound f/\prodF f f.strips.length<=30/\List.length out <= big->0=(↑0:Int))
  (o3:Sound f/\prodF f f.strips.length<=30/\List.length out <= big->Sound (withoutF f out))
  (o4:Sound f/\prodF f f.strips.length<=30/\List.length out <= big->0<=(withoutF f out).columns.length)
  (o5:Sound f/\prodF f f.strips.length<=30/\List.length out <= big->GoodLeft (withoutF f out) (stockTo f f.strips.length))
  (o6:Sound f/\prodF f f.strips.length<=30/\List.length out <= big->prodL (stockTo f f.strips.length)<=30)
  (o7:Sound f/\prodF f f.strips.length<=30/\List.length out <= big->decide (0 < (↑((laysC (withoutF f out) ((withoutF f out).columns.length - 0) (stockTo f f.strips.length)).length):Int))=canP f out) :
  Triple Try.prog 53 (s53 f out):=by
 refine triple_of Try.func53 rfl Try.call53 T0_ok _ rfl rfl rfl rfl (Nat.le_of_ble_eq_true (by kernel_rfl)) (fun _ _ _ _ h=>h) ?_
 intro hpre C hC _ hE
 obtain ⟨P,w0,E0,av,hA,ro,df⟩:=C
 obtain ⟨rfl,rfl,rfl⟩:=hC
 refine swp_seq ?_
 refine zR [1,2] [0] (Ak 2 tv) ?_
 refine swp_seq ?_
 refine zC ([(2,CallSpec.eq (s106 f out) [true,true]),(4,CallSpec.eq (s107 f) [true]),(5,CallSpec.eq (c53 f out) [true,false,true])]) [4] [] (Ak 2 (An (An (An (zr (AV.agg (cFrm f))) (An (zr (aInts out)) tv)) (An (t106 (f) (out)) (An (An (o0 hpre) (o1 hpre)) (Ak 1 (fun (i0:Env)=>tv))))) (Ak 1 (An (An (An (zr (AV.agg (cFrm f))) tv) (An (t107 (f)) (An hpre.1 (Ak 1 (fun (i1:Env)=>tv))))) (An (An (An (zr (AV.agg (cFrm (withoutF f out)))) (An (ci (o2 hpre)) (An (zr (aInts (stockTo f f.strips.length))) tv))) (An (t105 (withoutF f out) (0) (stockTo f f.strips.length)) (An (An (o3 hpre) (An (o4 hpre) (An (o5 hpre) (o6 hpre)))) (Ak 1 (fun (i2:Env)=>tv))))) (Ak 3 tv)))))) ?_
 refine swp_ret ?_
 exact zT [] (An (Ak 1 tv) (An (An (cb (o7 hpre)) (zr nilN)) (An (zr true) (An (zr true) (zr true)))))
theorem t53 (f:Frm) (out:List Int):Triple Try.prog 53 (s53 f out):=by
 apply w53
 all_goals (rintro ⟨hs,hpr,ho⟩)
 case o0=>exact sound_small hs
 case o1=>exact ho
 case o2=>rfl
 case o3=>exact without_sound hs out
 case o4=>exact Nat.zero_le _
 case o5=>exact without_good hs out
 case o6=>have:=prod_stock hs _ (Nat.le_refl _); omega
 case o7=>exact (can_lays hs out).symm
end Go.Ab
namespace Go.Sh
structure Nar where
 piece:Int
 lo:Int
 hi:Int
 one:Int
 other:Int
def narrowF (f:Frm) (y:Nar):Frm:={ f with pieces:=f.pieces.set y.piece.toNat { pc f y.piece.toNat with lo:=y.lo,hi:=y.hi } }
end Go.Sh
namespace Go.En
open Go Go.Ab Go.Sh
end Go.En
namespace Go.Ab
open Go Go.RowKit Go.Proofs Go.Sh Go.En
def e7 (f:Frm) (y:Nar) (x:Plc):List (Nat × OB):=[(232,.cells 26 (cFrm (narrowF f y)))]
def e5 (f:Frm) (c:Int) (set:List Int):List (Nat × OB):=[(112,.cells 26 (cFrm f))]
end Go.Ab
namespace Go.Ab
open Go Go.RowKit Go.Proofs Go.Sh Go.En
end Go.Ab
namespace Go.Sh
open Go.Ab
variable {f:Frm}
theorem far_prod (h:farF f=false) (h2:okFrm f=true):prodF f f.strips.length<=30:=by
 unfold farF at h
 rw [h2] at h
 simp only [Bool.or_eq_false_iff,Bool.true_and,decide_eq_false_iff_not] at h
 omega
theorem ready_prod (h:readyF f=true):prodF f f.strips.length<=30:=by
 unfold readyF at h
 rw [Bool.and_eq_true,Bool.not_eq_true'] at h
 exact far_prod h.1 h.2
theorem refuseL_len (f:Frm):(refuseL f).length<=6:=by
 unfold refuseL
 cases h:okFrm f with
 | false=>exact Nat.zero_le _
 | true =>
  rw [if_pos rfl]
  cases e:refP f with
  | none=>exact Nat.zero_le _
  | some x=>exact (ref_ok (sound_of h) _ x e).2.2
theorem ris_iff {n:Nat} {l:List Int}:rising l 0 ((n:Int) - 1)=true ↔ RisN n l:=by
 constructor
 ·intro h
  have hg:=fun k hk=>rising_get h (k:=k) hk
  have hlt:∀ d i:Nat,i + d + 1 < l.length->l.getD i 0 < l.getD (i + d + 1) 0:=by
   intro d
   induction d with
   | zero=>intro i hi; have:=(hg (i + 1) hi).2.2 (Nat.succ_pos _); rw [Nat.add_sub_cancel] at this; exact this
   | succ d ih =>
    intro i hi
    have h1:=ih i (by omega)
    have h2:=(hg (i + d + 1 + 1) (by omega)).2.2 (Nat.succ_pos _)
    rw [Nat.add_sub_cancel] at h2
    rw [show i + (d + 1) + 1=i + d + 1 + 1 by omega]
    omega
  refine ⟨List.pairwise_iff_getElem.2 fun i j hi hj hij => ?_,fun x hx => ?_⟩
  ·have:=hlt (j - i - 1) i (by omega)
   rw [show i + (j - i - 1) + 1=j by omega,getD_lt _ _ hi,getD_lt _ _ hj] at this
   exact this
  ·obtain ⟨i,hi,rfl⟩:=List.getElem_of_mem hx
   have:=hg i hi
   rw [getD_lt _ _ hi] at this
   omega
 ·intro h
  unfold rising
  rw [List.all_eq_true]
  intro i hi
  have hi:=List.mem_range.1 hi
  have h1:=h.2 _ (getD_mem l 0 hi)
  unfold risAt
  rw [Bool.and_eq_true,within_iff]
  refine ⟨by omega,?_⟩
  by_cases h0:i=0
  ·subst h0; rfl
  ·have:=List.pairwise_iff_getElem.1 h.1 (i - 1) i (by omega) hi (by omega)
   rw [← getD_lt l 0 hi,← getD_lt l 0 (show i - 1 < l.length by omega)] at this
   rw [Bool.or_eq_true]
   right
   rw [Bool.not_eq_true',decide_eq_false_iff_not]
   omega
theorem lost_lt (hs:Sound f):lostV f < 100000 ↔ (refP f).isSome=true:=by
 unfold lostV
 cases e:refP f with
 | none=>simp
 | some x=>have:=(ref_ok hs _ x e).2.1; simp; omega
theorem refuseE_eq (h:okFrm f=true):refuseE f=if (refP f).isSome then 0 else 3:=by unfold refuseE; rw [if_pos h]
end Go.Sh
namespace Go.Ab
open Go Go.RowKit Go.Proofs Go.Sh Go.En
def e6 (f:Frm):List (Nat × OB):=[(48,.cells 26 (cFrm f))]
def s9 (f:Frm) (out:List Int):CallSpec:={ args:=[vFrm f,aInts out],res:=bv true,pre:=fitsF f/\out.length<=big }
end Go.Ab
namespace Go.Ab
open Go Go.RowKit Go.Proofs Go.Sh Go.En
theorem w9 (f:Frm) (out:List Int)
  (o0:fitsF f/\List.length out <= big->(!readyF f)=false->(!!readyF f)=true)
  (o1:fitsF f/\List.length out <= big->(bif !readyF f then true else decide (40 < (↑(List.length out):Int)))=false->okFrm f=true)
  (o2:fitsF f/\List.length out <= big->(bif !readyF f then true else decide (40 < (↑(List.length out):Int)))=false->smallF f)
  (o3:fitsF f/\List.length out <= big->(bif !readyF f then true else decide (40 < (↑(List.length out):Int)))=false->(!(decide (refuseE f=0) || decide (refuseE f=3)))=false->(!!(decide (refuseE f=0) || decide (refuseE f=3)))=true)
  (o4:fitsF f/\List.length out <= big->(bif !readyF f then true else decide (40 < (↑(List.length out):Int)))=false->(bif !(decide (refuseE f=0) || decide (refuseE f=3)) then true else !decide (refuseE f=0) == decide (lostV f < 100000))=true->false=true)
  (o5:fitsF f/\List.length out <= big->(bif !readyF f then true else decide (40 < (↑(List.length out):Int)))=false->(bif !(decide (refuseE f=0) || decide (refuseE f=3)) then true else !decide (refuseE f=0) == decide (lostV f < 100000))=false->decide (refuseE f=0)=true->inI ((↑(f.pieces.length):Int) - 1))
  (o6:fitsF f/\List.length out <= big->(bif !readyF f then true else decide (40 < (↑(List.length out):Int)))=false->(bif !(decide (refuseE f=0) || decide (refuseE f=3)) then true else !decide (refuseE f=0) == decide (lostV f < 100000))=false->decide (refuseE f=0)=true->(refuseL f).length<=big)
  (o7:fitsF f/\List.length out <= big->(bif !readyF f then true else decide (40 < (↑(List.length out):Int)))=false->(bif !(decide (refuseE f=0) || decide (refuseE f=3)) then true else !decide (refuseE f=0) == decide (lostV f < 100000))=false->(decide (refuseE f=0) && !!rising (refuseL f) 0 ((↑(f.pieces.length):Int) - 1))=true->Sound f)
  (o8:fitsF f/\List.length out <= big->(bif !readyF f then true else decide (40 < (↑(List.length out):Int)))=false->(bif !(decide (refuseE f=0) || decide (refuseE f=3)) then true else !decide (refuseE f=0) == decide (lostV f < 100000))=false->(decide (refuseE f=0) && !!rising (refuseL f) 0 ((↑(f.pieces.length):Int) - 1))=true->goodL f (refuseL f))
  (o9:fitsF f/\List.length out <= big->(bif !readyF f then true else decide (40 < (↑(List.length out):Int)))=false->(bif !(decide (refuseE f=0) || decide (refuseE f=3)) then true else !decide (refuseE f=0) == decide (lostV f < 100000))=false->decide (refuseE f=0)=true->(!rising (refuseL f) 0 ((↑(f.pieces.length):Int) - 1))=false->(decide (refuseE f=0) && !!rising (refuseL f) 0 ((↑(f.pieces.length):Int) - 1))=true)
  (o10:fitsF f/\List.length out <= big->(bif !readyF f then true else decide (40 < (↑(List.length out):Int)))=false->(bif !(decide (refuseE f=0) || decide (refuseE f=3)) then true else !decide (refuseE f=0) == decide (lostV f < 100000))=false->(decide (refuseE f=0) && !bif !rising (refuseL f) 0 ((↑(f.pieces.length):Int) - 1) then true else !decide (penceP f (refuseL f)=lostV f))=true->Sound f)
  (o11:fitsF f/\List.length out <= big->(bif !readyF f then true else decide (40 < (↑(List.length out):Int)))=false->(bif !(decide (refuseE f=0) || decide (refuseE f=3)) then true else !decide (refuseE f=0) == decide (lostV f < 100000))=false->(decide (refuseE f=0) && !bif !rising (refuseL f) 0 ((↑(f.pieces.length):Int) - 1) then true else !decide (penceP f (refuseL f)=lostV f))=true->prodF f f.strips.length<=30)
  (o12:fitsF f/\List.length out <= big->(bif !readyF f then true else decide (40 < (↑(List.length out):Int)))=false->(bif !(decide (refuseE f=0) || decide (refuseE f=3)) then true else !decide (refuseE f=0) == decide (lostV f < 100000))=false->(decide (refuseE f=0) && !bif !rising (refuseL f) 0 ((↑(f.pieces.length):Int) - 1) then true else !decide (penceP f (refuseL f)=lostV f))=true->(refuseL f).length<=big)
  (o13:fitsF f/\List.length out <= big->(bif !readyF f then true else decide (40 < (↑(List.length out):Int)))=false->(bif !(decide (refuseE f=0) || decide (refuseE f=3)) then true else !decide (refuseE f=0) == decide (lostV f < 100000))=false->decide (refuseE f=0)=true->(bif !rising (refuseL f) 0 ((↑(f.pieces.length):Int) - 1) then true else !decide (penceP f (refuseL f)=lostV f))=false->(decide (refuseE f=0) && !bif !rising (refuseL f) 0 ((↑(f.pieces.length):Int) - 1) then true else !decide (penceP f (refuseL f)=lostV f))=true)
  (o14:fitsF f/\List.length out <= big->(bif !readyF f then true else decide (40 < (↑(List.length out):Int)))=false->(bif !(decide (refuseE f=0) || decide (refuseE f=3)) then true else !decide (refuseE f=0) == decide (lostV f < 100000))=false->(bif decide (refuseE f=0) then bif bif !rising (refuseL f) 0 ((↑(f.pieces.length):Int) - 1) then true else !decide (penceP f (refuseL f)=lostV f) then true else !canP f (refuseL f) else false)=true->false=true)
  (o15:fitsF f/\List.length out <= big->(bif !readyF f then true else decide (40 < (↑(List.length out):Int)))=false->(bif !(decide (refuseE f=0) || decide (refuseE f=3)) then true else !decide (refuseE f=0) == decide (lostV f < 100000))=false->(bif decide (refuseE f=0) then bif bif !rising (refuseL f) 0 ((↑(f.pieces.length):Int) - 1) then true else !decide (penceP f (refuseL f)=lostV f) then true else !canP f (refuseL f) else false)=false->inI ((↑(f.pieces.length):Int) - 1))
  (o16:fitsF f/\List.length out <= big->(bif !readyF f then true else decide (40 < (↑(List.length out):Int)))=false->(bif !(decide (refuseE f=0) || decide (refuseE f=3)) then true else !decide (refuseE f=0) == decide (lostV f < 100000))=false->(bif decide (refuseE f=0) then bif bif !rising (refuseL f) 0 ((↑(f.pieces.length):Int) - 1) then true else !decide (penceP f (refuseL f)=lostV f) then true else !canP f (refuseL f) else false)=false->(!!rising out 0 ((↑(f.pieces.length):Int) - 1))=true->Sound f)
  (o17:fitsF f/\List.length out <= big->(bif !readyF f then true else decide (40 < (↑(List.length out):Int)))=false->(bif !(decide (refuseE f=0) || decide (refuseE f=3)) then true else !decide (refuseE f=0) == decide (lostV f < 100000))=false->(bif decide (refuseE f=0) then bif bif !rising (refuseL f) 0 ((↑(f.pieces.length):Int) - 1) then true else !decide (penceP f (refuseL f)=lostV f) then true else !canP f (refuseL f) else false)=false->(!!rising out 0 ((↑(f.pieces.length):Int) - 1))=true->prodF f f.strips.length<=30)
  (o18:fitsF f/\List.length out <= big->(bif !readyF f then true else decide (40 < (↑(List.length out):Int)))=false->(bif !(decide (refuseE f=0) || decide (refuseE f=3)) then true else !decide (refuseE f=0) == decide (lostV f < 100000))=false->(bif decide (refuseE f=0) then bif bif !rising (refuseL f) 0 ((↑(f.pieces.length):Int) - 1) then true else !decide (penceP f (refuseL f)=lostV f) then true else !canP f (refuseL f) else false)=false->(!rising out 0 ((↑(f.pieces.length):Int) - 1))=false->(!!rising out 0 ((↑(f.pieces.length):Int) - 1))=true)
  (o19:fitsF f/\List.length out <= big->(bif !readyF f then true else decide (40 < (↑(List.length out):Int)))=false->(bif !(decide (refuseE f=0) || decide (refuseE f=3)) then true else !decide (refuseE f=0) == decide (lostV f < 100000))=false->(bif decide (refuseE f=0) then bif bif !rising (refuseL f) 0 ((↑(f.pieces.length):Int) - 1) then true else !decide (penceP f (refuseL f)=lostV f) then true else !canP f (refuseL f) else false)=false->(bif !rising out 0 ((↑(f.pieces.length):Int) - 1) then true else !canP f out)=false->Sound f)
  (o20:fitsF f/\List.length out <= big->(bif !readyF f then true else decide (40 < (↑(List.length out):Int)))=false->(bif !(decide (refuseE f=0) || decide (refuseE f=3)) then true else !decide (refuseE f=0) == decide (lostV f < 100000))=false->(bif decide (refuseE f=0) then bif bif !rising (refuseL f) 0 ((↑(f.pieces.length):Int) - 1) then true else !decide (penceP f (refuseL f)=lostV f) then true else !canP f (refuseL f) else false)=false->(bif !rising out 0 ((↑(f.pieces.length):Int) - 1) then true else !canP f out)=false->goodL f out)
  (o21:fitsF f/\List.length out <= big->(bif !readyF f then true else decide (40 < (↑(List.length out):Int)))=false->(bif !(decide (refuseE f=0) || decide (refuseE f=3)) then true else !decide (refuseE f=0) == decide (lostV f < 100000))=false->(bif decide (refuseE f=0) then bif bif !rising (refuseL f) 0 ((↑(f.pieces.length):Int) - 1) then true else !decide (penceP f (refuseL f)=lostV f) then true else !canP f (refuseL f) else false)=false->(bif !rising out 0 ((↑(f.pieces.length):Int) - 1) then true else !canP f out)=false->(bif decide (refuseE f=0) then decide (lostV f<=penceP f out) else false)=true->decide (lostV f < penceP f out)=false->((bif decide (refuseE f=0) then decide (lostV f<=penceP f out) else false) && !decide (lostV f < penceP f out))=true)
  (o22:fitsF f/\List.length out <= big->(bif !readyF f then true else decide (40 < (↑(List.length out):Int)))=false->(bif !(decide (refuseE f=0) || decide (refuseE f=3)) then true else !decide (refuseE f=0) == decide (lostV f < 100000))=false->(bif decide (refuseE f=0) then bif bif !rising (refuseL f) 0 ((↑(f.pieces.length):Int) - 1) then true else !decide (penceP f (refuseL f)=lostV f) then true else !canP f (refuseL f) else false)=false->(bif !rising out 0 ((↑(f.pieces.length):Int) - 1) then true else !canP f out)=false->(((bif decide (refuseE f=0) then decide (lostV f<=penceP f out) else false) && !bif decide (lostV f < penceP f out) then true else decide ((↑((refuseL f).length):Int) < (↑(List.length out):Int))) && decide ((↑(List.length out):Int)=(↑((refuseL f).length):Int)))=true->(refuseL f).length<=big)
  (o23:fitsF f/\List.length out <= big->(bif !readyF f then true else decide (40 < (↑(List.length out):Int)))=false->(bif !(decide (refuseE f=0) || decide (refuseE f=3)) then true else !decide (refuseE f=0) == decide (lostV f < 100000))=false->(bif decide (refuseE f=0) then bif bif !rising (refuseL f) 0 ((↑(f.pieces.length):Int) - 1) then true else !decide (penceP f (refuseL f)=lostV f) then true else !canP f (refuseL f) else false)=false->(bif !rising out 0 ((↑(f.pieces.length):Int) - 1) then true else !canP f out)=false->((bif decide (refuseE f=0) then decide (lostV f<=penceP f out) else false) && !bif decide (lostV f < penceP f out) then true else decide ((↑((refuseL f).length):Int) < (↑(List.length out):Int)))=true->decide ((↑(List.length out):Int)=(↑((refuseL f).length):Int))=true->(((bif decide (refuseE f=0) then decide (lostV f<=penceP f out) else false) && !bif decide (lostV f < penceP f out) then true else decide ((↑((refuseL f).length):Int) < (↑(List.length out):Int))) && decide ((↑(List.length out):Int)=(↑((refuseL f).length):Int)))=true)
  (o24:fitsF f/\List.length out <= big->(bif !readyF f then true else decide (40 < (↑(List.length out):Int)))=false->(bif !(decide (refuseE f=0) || decide (refuseE f=3)) then true else !decide (refuseE f=0) == decide (lostV f < 100000))=false->(bif decide (refuseE f=0) then bif bif !rising (refuseL f) 0 ((↑(f.pieces.length):Int) - 1) then true else !decide (penceP f (refuseL f)=lostV f) then true else !canP f (refuseL f) else false)=false->(bif !rising out 0 ((↑(f.pieces.length):Int) - 1) then true else !canP f out)=false->(bif decide (refuseE f=0) then decide (lostV f<=penceP f out) else false)=true->(bif decide (lostV f < penceP f out) then true else decide ((↑((refuseL f).length):Int) < (↑(List.length out):Int)))=false->((bif decide (refuseE f=0) then decide (lostV f<=penceP f out) else false) && !bif decide (lostV f < penceP f out) then true else decide ((↑((refuseL f).length):Int) < (↑(List.length out):Int)))=true)
  (o25:fitsF f/\List.length out <= big->(bif !readyF f then true else decide (40 < (↑(List.length out):Int)))=false->(bif !(decide (refuseE f=0) || decide (refuseE f=3)) then true else !decide (refuseE f=0) == decide (lostV f < 100000))=false->(bif decide (refuseE f=0) then bif bif !rising (refuseL f) 0 ((↑(f.pieces.length):Int) - 1) then true else !decide (penceP f (refuseL f)=lostV f) then true else !canP f (refuseL f) else false)=false->(bif !rising out 0 ((↑(f.pieces.length):Int) - 1) then true else !canP f out)=false->(bif bif bif decide (refuseE f=0) then decide (lostV f<=penceP f out) else false then bif bif decide (lostV f < penceP f out) then true else decide ((↑((refuseL f).length):Int) < (↑(List.length out):Int)) then true else bif decide ((↑(List.length out):Int)=(↑((refuseL f).length):Int)) then !earlier out (refuseL f) else false else false then true else false)=true) :
  Triple Try.prog 9 (s9 f out):=by
 refine triple_of Try.func9 rfl Try.call9 T0_ok _ rfl rfl rfl rfl (Nat.le_of_ble_eq_true (by kernel_rfl)) (fun _ _ _ _ h=>h) ?_
 intro hpre C hC _ hE
 obtain ⟨P,w0,E0,av,hA,ro,df⟩:=C
 obtain ⟨rfl,rfl,rfl⟩:=hC
 refine swp_seq ?_
 refine zR [1,2] [0] (Ak 2 tv) ?_
 refine swp_seq ?_
 refine swp_seq ?_
 refine zC ([(1,CallSpec.eq (s18 f) [true])]) [1,2,17] [0] (Ak 1 (An (An (An (zr (AV.agg (cFrm f))) tv) (An (t18 (f)) (An hpre.1 (Ak 1 (fun (i0:Env)=>tv))))) (Ak 2 (An (fun (y1:(!!readyF f)=true)=>(An (Ak 1 tv) tv)) (An (fun (y2:(!!readyF f)=true)=>(An (An (fun (y3:(!!readyF f)=true)=>y2) tv) tv)) (An (fun (y4:(!!readyF f)=true)=>(An (An (fun (y5:(!!readyF f)=true)=>y4) (Ak 1 tv)) tv)) (An (An (fun (y6:(!readyF f)=true)=>tv) (fun (y7:(!readyF f)=false)=>(o0 hpre y7))) tv))))))) ?_
 refine zI (bif !readyF f then true else decide (40 < (↑(List.length out):Int))) (fun y8 => ?_) (fun y8 => ?_)
 ·refine swp_seq ?_
  refine zC ([(0,CallSpec.eq s20 [])]) [4] [] (An (Ak 1 (An (t20) (Ak 2 (fun (i9:Env)=>tv)))) (Ak 1 tv)) ?_
  refine swp_ret ?_
  exact zT [] (An (Ak 1 tv) (An (An (zr (bv true)) (zr nilN)) (An (zr true) (An (zr true) (zr true)))))
 ·refine swp_skip ?_
  refine swp_seq ?_
  refine zC ([(1,CallSpec.eq (s50 f) [true])]) [1,2,5,6] [0] (Ak 1 (An (An (An (zr (AV.agg (cFrm f))) tv) (An (t50 (f)) (An (o1 hpre y8) (Ak 1 (fun (i10:Env)=>tv))))) (Ak 5 tv))) ?_
  refine swp_seq ?_
  refine zC ([(1,CallSpec.eq (s42 f) [true])]) [1,2,5,6,7,8] [0] (Ak 1 (An (An (An (zr (AV.agg (cFrm f))) tv) (An (t42 (f)) (An (o2 hpre y8) (Ak 1 (fun (i11:Env)=>tv))))) (Ak 5 tv))) ?_
  refine swp_seq ?_
  refine swp_seq ?_
  refine zC ([(4,CallSpec.eq (s24 (refuseE f)) [true])]) [1,2,5,7,8,42] [0] (Ak 3 (An (fun (y12:(!false)=true)=>(An (Ak 1 tv) tv)) (An (fun (y13:(!false)=true)=>(An (Ak 1 (An (fun (y14:(!false)=true)=>(zr true)) tv)) (An (An (zr (iv (refuseE f))) tv) (An (t24 (refuseE f)) (Ak 2 (fun (i15:Env)=>tv)))))) (An (fun (y16:(!false)=true)=>(An (An (fun (y17:(!false)=true)=>(zr true)) tv) tv)) (An (An (fun (y18:false=true)=>tv) (fun (y19:false=false)=>(zr true))) (Ak 1 (An (fun (y20:(!!(decide (refuseE f=0) || decide (refuseE f=3)))=true)=>(An (Ak 1 tv) tv)) (An (fun (y21:(!!(decide (refuseE f=0) || decide (refuseE f=3)))=true)=>(An (An (fun (y22:(!!(decide (refuseE f=0) || decide (refuseE f=3)))=true)=>y21) (Ak 1 tv)) tv)) (An (fun (y23:(!!(decide (refuseE f=0) || decide (refuseE f=3)))=true)=>(An (Ak 1 tv) tv)) (An (fun (y24:(!!(decide (refuseE f=0) || decide (refuseE f=3)))=true)=>(An (An (fun (y25:(!!(decide (refuseE f=0) || decide (refuseE f=3)))=true)=>y24) (Ak 1 tv)) tv)) (An (fun (y26:(!!(decide (refuseE f=0) || decide (refuseE f=3)))=true)=>(An (An (fun (y27:(!!(decide (refuseE f=0) || decide (refuseE f=3)))=true)=>y26) (An (fun (y28:(!!(decide (refuseE f=0) || decide (refuseE f=3)))=true)=>y26) tv)) tv)) (An (An (fun (y29:(!(decide (refuseE f=0) || decide (refuseE f=3)))=true)=>tv) (fun (y30:(!(decide (refuseE f=0) || decide (refuseE f=3)))=false)=>(o3 hpre y8 y30))) tv)))))))))))) ?_
  refine zI (bif !(decide (refuseE f=0) || decide (refuseE f=3)) then true else !decide (refuseE f=0) == decide (lostV f < 100000)) (fun y31 => ?_) (fun y31 => ?_)
  ·refine swp_seq ?_
   refine zR [4] [] (Ak 1 tv) ?_
   refine swp_ret ?_
   exact zT [] (An (Ak 1 tv) (An (An (cb (o4 hpre y8 y31)) (zr nilN)) (An (zr true) (An (zr true) (zr true)))))
  ·refine swp_skip ?_
   refine swp_seq ?_
   refine swp_seq ?_
   refine zC ([(8,CallSpec.eq (s51 (refuseL f) 0 ((↑(f.pieces.length):Int) - 1)) [false,true,true]),(13,CallSpec.eq (s52 f (refuseL f)) [true,false]),(20,CallSpec.eq (s53 f (refuseL f)) [true,false])]) [1,2,5,7,8,66] [0] (Ak 3 (An (fun (y32:decide (refuseE f=0)=true)=>(An (Ak 1 tv) tv)) (An (fun (y33:decide (refuseE f=0)=true)=>(An (Ak 1 tv) tv)) (An (fun (y34:decide (refuseE f=0)=true)=>(An (An (fun (y35:decide (refuseE f=0)=true)=>y34) tv) tv)) (An (fun (y36:decide (refuseE f=0)=true)=>(An (An (fun (y37:decide (refuseE f=0)=true)=>y36) tv) tv)) (An (fun (y38:decide (refuseE f=0)=true)=>(An (An (fun (y39:decide (refuseE f=0)=true)=>y38) (Ak 1 tv)) (o5 hpre y8 y31 y38))) (An (fun (y40:decide (refuseE f=0)=true)=>(An (Ak 1 (An (fun (y41:decide (refuseE f=0)=true)=>y40) (Ak 1 (An (fun (y42:decide (refuseE f=0)=true)=>y40) tv)))) (An (An (An (zr 1) (An (zr (refuseL f).length) (fun (i43:Nat)=>(fun (y44:i43 < (refuseL f).length)=>(zr ([iv ((refuseL f).getD i43 0)])))))) (An (zr (iv 0)) (An (zr (iv ((↑(f.pieces.length):Int) - 1))) tv))) (An (t51 (refuseL f) (0) ((↑(f.pieces.length):Int) - 1)) (An (o6 hpre y8 y31 y40) (Ak 1 (fun (i45:Env)=>tv))))))) (An (fun (y46:decide (refuseE f=0)=true)=>(An (An (fun (y47:decide (refuseE f=0)=true)=>y46) tv) tv)) (An (fun (y48:decide (refuseE f=0)=true)=>(An (An (fun (y49:decide (refuseE f=0)=true)=>y48) tv) tv)) (An (fun (y50:(decide (refuseE f=0) && !!rising (refuseL f) 0 ((↑(f.pieces.length):Int) - 1))=true)=>(An (Ak 1 tv) tv)) (An (fun (y51:(decide (refuseE f=0) && !!rising (refuseL f) 0 ((↑(f.pieces.length):Int) - 1))=true)=>(An (Ak 1 tv) tv)) (An (fun (y52:(decide (refuseE f=0) && !!rising (refuseL f) 0 ((↑(f.pieces.length):Int) - 1))=true)=>(An (Ak 1 (An (fun (y53:(decide (refuseE f=0) && !!rising (refuseL f) 0 ((↑(f.pieces.length):Int) - 1))=true)=>y52) (An (fun (y54:(decide (refuseE f=0) && !!rising (refuseL f) 0 ((↑(f.pieces.length):Int) - 1))=true)=>y52) tv))) (An (An (zr (AV.agg (cFrm f))) (An (An (zr 1) (An (zr (refuseL f).length) (fun (i55:Nat)=>(fun (y56:i55 < (refuseL f).length)=>(zr ([iv ((refuseL f).getD i55 0)])))))) tv)) (An (t52 (f) (refuseL f)) (An (An (o7 hpre y8 y31 y52) (o8 hpre y8 y31 y52)) (Ak 1 (fun (i57:Env)=>tv))))))) (An (fun (y58:(decide (refuseE f=0) && !!rising (refuseL f) 0 ((↑(f.pieces.length):Int) - 1))=true)=>(An (Ak 1 tv) tv)) (An (fun (y59:(decide (refuseE f=0) && !!rising (refuseL f) 0 ((↑(f.pieces.length):Int) - 1))=true)=>(An (An (fun (y60:(decide (refuseE f=0) && !!rising (refuseL f) 0 ((↑(f.pieces.length):Int) - 1))=true)=>y59) (An (fun (y61:(decide (refuseE f=0) && !!rising (refuseL f) 0 ((↑(f.pieces.length):Int) - 1))=true)=>y59) tv)) tv)) (An (fun (y62:decide (refuseE f=0)=true)=>(An (An (fun (y63:decide (refuseE f=0)=true)=>y62) tv) (An (fun (y64:(!rising (refuseL f) 0 ((↑(f.pieces.length):Int) - 1))=true)=>tv) (fun (y65:(!rising (refuseL f) 0 ((↑(f.pieces.length):Int) - 1))=false)=>(o9 hpre y8 y31 y62 y65))))) (An (fun (y66:decide (refuseE f=0)=true)=>(An (An (fun (y67:decide (refuseE f=0)=true)=>y66) tv) tv)) (An (fun (y68:(decide (refuseE f=0) && !bif !rising (refuseL f) 0 ((↑(f.pieces.length):Int) - 1) then true else !decide (penceP f (refuseL f)=lostV f))=true)=>(An (Ak 1 tv) tv)) (An (fun (y69:(decide (refuseE f=0) && !bif !rising (refuseL f) 0 ((↑(f.pieces.length):Int) - 1) then true else !decide (penceP f (refuseL f)=lostV f))=true)=>(An (Ak 1 tv) tv)) (An (fun (y70:(decide (refuseE f=0) && !bif !rising (refuseL f) 0 ((↑(f.pieces.length):Int) - 1) then true else !decide (penceP f (refuseL f)=lostV f))=true)=>(An (Ak 1 (An (fun (y71:(decide (refuseE f=0) && !bif !rising (refuseL f) 0 ((↑(f.pieces.length):Int) - 1) then true else !decide (penceP f (refuseL f)=lostV f))=true)=>y70) (An (fun (y72:(decide (refuseE f=0) && !bif !rising (refuseL f) 0 ((↑(f.pieces.length):Int) - 1) then true else !decide (penceP f (refuseL f)=lostV f))=true)=>y70) tv))) (An (An (zr (AV.agg (cFrm f))) (An (An (zr 1) (An (zr (refuseL f).length) (fun (i73:Nat)=>(fun (y74:i73 < (refuseL f).length)=>(zr ([iv ((refuseL f).getD i73 0)])))))) tv)) (An (t53 (f) (refuseL f)) (An (An (o10 hpre y8 y31 y70) (An (o11 hpre y8 y31 y70) (o12 hpre y8 y31 y70))) (Ak 1 (fun (i75:Env)=>tv))))))) (An (fun (y76:(decide (refuseE f=0) && !bif !rising (refuseL f) 0 ((↑(f.pieces.length):Int) - 1) then true else !decide (penceP f (refuseL f)=lostV f))=true)=>(An (An (fun (y77:(decide (refuseE f=0) && !bif !rising (refuseL f) 0 ((↑(f.pieces.length):Int) - 1) then true else !decide (penceP f (refuseL f)=lostV f))=true)=>y76) tv) tv)) (An (fun (y78:decide (refuseE f=0)=true)=>(An (An (fun (y79:decide (refuseE f=0)=true)=>y78) tv) (An (fun (y80:(bif !rising (refuseL f) 0 ((↑(f.pieces.length):Int) - 1) then true else !decide (penceP f (refuseL f)=lostV f))=true)=>tv) (fun (y81:(bif !rising (refuseL f) 0 ((↑(f.pieces.length):Int) - 1) then true else !decide (penceP f (refuseL f)=lostV f))=false)=>(o13 hpre y8 y31 y78 y81))))) (An (An (fun (y82:decide (refuseE f=0)=true)=>y82) (fun (y83:decide (refuseE f=0)=false)=>tv)) tv)))))))))))))))))))))) ?_
   refine zI (bif decide (refuseE f=0) then bif bif !rising (refuseL f) 0 ((↑(f.pieces.length):Int) - 1) then true else !decide (penceP f (refuseL f)=lostV f) then true else !canP f (refuseL f) else false) (fun y84 => ?_) (fun y84 => ?_)
   ·refine swp_seq ?_
    refine zR [4] [] (Ak 1 tv) ?_
    refine swp_ret ?_
    exact zT [] (An (Ak 1 tv) (An (An (cb (o14 hpre y8 y31 y84)) (zr nilN)) (An (zr true) (An (zr true) (zr true)))))
   ·refine swp_skip ?_
    refine swp_seq ?_
    refine swp_seq ?_
    refine zC ([(5,CallSpec.eq (s51 out 0 ((↑(f.pieces.length):Int) - 1)) [true,true,true]),(10,CallSpec.eq (s53 f out) [true,false])]) [1,2,5,7,8,79] [0] (Ak 4 (An (o15 hpre y8 y31 y84) (An (An (An (zr (aInts out)) (An (zr (iv 0)) (An (zr (iv ((↑(f.pieces.length):Int) - 1))) tv))) (An (t51 (out) (0) ((↑(f.pieces.length):Int) - 1)) (An hpre.2 (Ak 1 (fun (i85:Env)=>tv))))) (Ak 2 (An (fun (y86:(!!rising out 0 ((↑(f.pieces.length):Int) - 1))=true)=>(An (Ak 1 tv) tv)) (An (fun (y87:(!!rising out 0 ((↑(f.pieces.length):Int) - 1))=true)=>(An (Ak 1 tv) tv)) (An (fun (y88:(!!rising out 0 ((↑(f.pieces.length):Int) - 1))=true)=>(An (Ak 1 (An (fun (y89:(!!rising out 0 ((↑(f.pieces.length):Int) - 1))=true)=>y88) (An (fun (y90:(!!rising out 0 ((↑(f.pieces.length):Int) - 1))=true)=>y88) tv))) (An (An (zr (AV.agg (cFrm f))) (An (An (zr 1) (An (zr (List.length out)) (fun (i91:Nat)=>(fun (y92:i91 < List.length out)=>(zr ([iv (List.getD out i91 0)])))))) tv)) (An (t53 (f) (out)) (An (An (o16 hpre y8 y31 y84 y88) (An (o17 hpre y8 y31 y84 y88) hpre.2)) (Ak 1 (fun (i93:Env)=>tv))))))) (An (fun (y94:(!!rising out 0 ((↑(f.pieces.length):Int) - 1))=true)=>(An (An (fun (y95:(!!rising out 0 ((↑(f.pieces.length):Int) - 1))=true)=>y94) tv) tv)) (An (An (fun (y96:(!rising out 0 ((↑(f.pieces.length):Int) - 1))=true)=>tv) (fun (y97:(!rising out 0 ((↑(f.pieces.length):Int) - 1))=false)=>(o18 hpre y8 y31 y84 y97))) tv))))))))) ?_
    refine zI (bif !rising out 0 ((↑(f.pieces.length):Int) - 1) then true else !canP f out) (fun y98 => ?_) (fun y98 => ?_)
    ·refine swp_seq ?_
     refine zC ([(0,CallSpec.eq s20 [])]) [4] [] (An (Ak 1 (An (t20) (Ak 2 (fun (i99:Env)=>tv)))) (Ak 1 tv)) ?_
     refine swp_ret ?_
     exact zT [] (An (Ak 1 tv) (An (An (zr (bv true)) (zr nilN)) (An (zr true) (An (zr true) (zr true)))))
    ·refine swp_skip ?_
     refine swp_seq ?_
     refine zC ([(2,CallSpec.eq (s52 f out) [true,true])]) [1,5,7,8,9] [] (Ak 2 (An (An (An (zr (AV.agg (cFrm f))) (An (zr (aInts out)) tv)) (An (t52 (f) (out)) (An (An (o19 hpre y8 y31 y84 y98) (o20 hpre y8 y31 y84 y98)) (Ak 1 (fun (i100:Env)=>tv))))) (Ak 1 tv))) ?_
     refine swp_seq ?_
     refine zC ([(27,CallSpec.eq (s54 out (refuseL f)) [false,false]),(33,CallSpec.eq s20 [])]) [4] [] (Ak 3 (An (fun (y101:decide (refuseE f=0)=true)=>(An (Ak 1 tv) tv)) (An (fun (y102:decide (refuseE f=0)=true)=>(An (Ak 1 tv) tv)) (An (fun (y103:decide (refuseE f=0)=true)=>(An (An (fun (y104:decide (refuseE f=0)=true)=>y103) (An (fun (y105:decide (refuseE f=0)=true)=>y103) tv)) tv)) (An (An (fun (y106:decide (refuseE f=0)=true)=>y106) (fun (y107:decide (refuseE f=0)=false)=>tv)) (Ak 1 (An (fun (y108:(bif decide (refuseE f=0) then decide (lostV f<=penceP f out) else false)=true)=>(An (Ak 1 tv) tv)) (An (fun (y109:(bif decide (refuseE f=0) then decide (lostV f<=penceP f out) else false)=true)=>(An (Ak 1 tv) tv)) (An (fun (y110:(bif decide (refuseE f=0) then decide (lostV f<=penceP f out) else false)=true)=>(An (An (fun (y111:(bif decide (refuseE f=0) then decide (lostV f<=penceP f out) else false)=true)=>y110) (An (fun (y112:(bif decide (refuseE f=0) then decide (lostV f<=penceP f out) else false)=true)=>y110) tv)) tv)) (An (fun (y113:(bif decide (refuseE f=0) then decide (lostV f<=penceP f out) else false)=true)=>(An (An (fun (y114:(bif decide (refuseE f=0) then decide (lostV f<=penceP f out) else false)=true)=>y113) tv) tv)) (An (fun (y115:((bif decide (refuseE f=0) then decide (lostV f<=penceP f out) else false) && !decide (lostV f < penceP f out))=true)=>(An (Ak 1 tv) tv)) (An (fun (y116:((bif decide (refuseE f=0) then decide (lostV f<=penceP f out) else false) && !decide (lostV f < penceP f out))=true)=>(An (An (fun (y117:((bif decide (refuseE f=0) then decide (lostV f<=penceP f out) else false) && !decide (lostV f < penceP f out))=true)=>y116) tv) tv)) (An (fun (y118:((bif decide (refuseE f=0) then decide (lostV f<=penceP f out) else false) && !decide (lostV f < penceP f out))=true)=>(An (Ak 1 tv) tv)) (An (fun (y119:((bif decide (refuseE f=0) then decide (lostV f<=penceP f out) else false) && !decide (lostV f < penceP f out))=true)=>(An (An (fun (y120:((bif decide (refuseE f=0) then decide (lostV f<=penceP f out) else false) && !decide (lostV f < penceP f out))=true)=>y119) tv) tv)) (An (fun (y121:((bif decide (refuseE f=0) then decide (lostV f<=penceP f out) else false) && !decide (lostV f < penceP f out))=true)=>(An (An (fun (y122:((bif decide (refuseE f=0) then decide (lostV f<=penceP f out) else false) && !decide (lostV f < penceP f out))=true)=>y121) (An (fun (y123:((bif decide (refuseE f=0) then decide (lostV f<=penceP f out) else false) && !decide (lostV f < penceP f out))=true)=>y121) tv)) tv)) (An (fun (y124:(bif decide (refuseE f=0) then decide (lostV f<=penceP f out) else false)=true)=>(An (An (fun (y125:(bif decide (refuseE f=0) then decide (lostV f<=penceP f out) else false)=true)=>y124) tv) (An (fun (y126:decide (lostV f < penceP f out)=true)=>tv) (fun (y127:decide (lostV f < penceP f out)=false)=>(o21 hpre y8 y31 y84 y98 y124 y127))))) (An (fun (y128:(bif decide (refuseE f=0) then decide (lostV f<=penceP f out) else false)=true)=>(An (An (fun (y129:(bif decide (refuseE f=0) then decide (lostV f<=penceP f out) else false)=true)=>y128) tv) tv)) (An (fun (y130:((bif decide (refuseE f=0) then decide (lostV f<=penceP f out) else false) && !bif decide (lostV f < penceP f out) then true else decide ((↑((refuseL f).length):Int) < (↑(List.length out):Int)))=true)=>(An (Ak 1 tv) tv)) (An (fun (y131:((bif decide (refuseE f=0) then decide (lostV f<=penceP f out) else false) && !bif decide (lostV f < penceP f out) then true else decide ((↑((refuseL f).length):Int) < (↑(List.length out):Int)))=true)=>(An (An (fun (y132:((bif decide (refuseE f=0) then decide (lostV f<=penceP f out) else false) && !bif decide (lostV f < penceP f out) then true else decide ((↑((refuseL f).length):Int) < (↑(List.length out):Int)))=true)=>y131) tv) tv)) (An (fun (y133:((bif decide (refuseE f=0) then decide (lostV f<=penceP f out) else false) && !bif decide (lostV f < penceP f out) then true else decide ((↑((refuseL f).length):Int) < (↑(List.length out):Int)))=true)=>(An (Ak 1 tv) tv)) (An (fun (y134:((bif decide (refuseE f=0) then decide (lostV f<=penceP f out) else false) && !bif decide (lostV f < penceP f out) then true else decide ((↑((refuseL f).length):Int) < (↑(List.length out):Int)))=true)=>(An (An (fun (y135:((bif decide (refuseE f=0) then decide (lostV f<=penceP f out) else false) && !bif decide (lostV f < penceP f out) then true else decide ((↑((refuseL f).length):Int) < (↑(List.length out):Int)))=true)=>y134) tv) tv)) (An (fun (y136:((bif decide (refuseE f=0) then decide (lostV f<=penceP f out) else false) && !bif decide (lostV f < penceP f out) then true else decide ((↑((refuseL f).length):Int) < (↑(List.length out):Int)))=true)=>(An (An (fun (y137:((bif decide (refuseE f=0) then decide (lostV f<=penceP f out) else false) && !bif decide (lostV f < penceP f out) then true else decide ((↑((refuseL f).length):Int) < (↑(List.length out):Int)))=true)=>y136) (An (fun (y138:((bif decide (refuseE f=0) then decide (lostV f<=penceP f out) else false) && !bif decide (lostV f < penceP f out) then true else decide ((↑((refuseL f).length):Int) < (↑(List.length out):Int)))=true)=>y136) tv)) tv)) (An (fun (y139:((bif decide (refuseE f=0) then decide (lostV f<=penceP f out) else false) && !bif decide (lostV f < penceP f out) then true else decide ((↑((refuseL f).length):Int) < (↑(List.length out):Int)))=true)=>(An (An (fun (y140:((bif decide (refuseE f=0) then decide (lostV f<=penceP f out) else false) && !bif decide (lostV f < penceP f out) then true else decide ((↑((refuseL f).length):Int) < (↑(List.length out):Int)))=true)=>y139) tv) tv)) (An (fun (y141:(((bif decide (refuseE f=0) then decide (lostV f<=penceP f out) else false) && !bif decide (lostV f < penceP f out) then true else decide ((↑((refuseL f).length):Int) < (↑(List.length out):Int))) && decide ((↑(List.length out):Int)=(↑((refuseL f).length):Int)))=true)=>(An (Ak 1 tv) tv)) (An (fun (y142:(((bif decide (refuseE f=0) then decide (lostV f<=penceP f out) else false) && !bif decide (lostV f < penceP f out) then true else decide ((↑((refuseL f).length):Int) < (↑(List.length out):Int))) && decide ((↑(List.length out):Int)=(↑((refuseL f).length):Int)))=true)=>(An (Ak 1 tv) tv)) (An (fun (y143:(((bif decide (refuseE f=0) then decide (lostV f<=penceP f out) else false) && !bif decide (lostV f < penceP f out) then true else decide ((↑((refuseL f).length):Int) < (↑(List.length out):Int))) && decide ((↑(List.length out):Int)=(↑((refuseL f).length):Int)))=true)=>(An (Ak 1 (An (fun (y144:(((bif decide (refuseE f=0) then decide (lostV f<=penceP f out) else false) && !bif decide (lostV f < penceP f out) then true else decide ((↑((refuseL f).length):Int) < (↑(List.length out):Int))) && decide ((↑(List.length out):Int)=(↑((refuseL f).length):Int)))=true)=>y143) (An (fun (y145:(((bif decide (refuseE f=0) then decide (lostV f<=penceP f out) else false) && !bif decide (lostV f < penceP f out) then true else decide ((↑((refuseL f).length):Int) < (↑(List.length out):Int))) && decide ((↑(List.length out):Int)=(↑((refuseL f).length):Int)))=true)=>y143) tv))) (An (An (An (zr 1) (An (zr (List.length out)) (fun (i146:Nat)=>(fun (y147:i146 < List.length out)=>(zr ([iv (List.getD out i146 0)])))))) (An (An (zr 1) (An (zr (refuseL f).length) (fun (i148:Nat)=>(fun (y149:i148 < (refuseL f).length)=>(zr ([iv ((refuseL f).getD i148 0)])))))) tv)) (An (t54 (out) (refuseL f)) (An (An hpre.2 (o22 hpre y8 y31 y84 y98 y143)) (Ak 1 (fun (i150:Env)=>tv))))))) (An (fun (y151:(((bif decide (refuseE f=0) then decide (lostV f<=penceP f out) else false) && !bif decide (lostV f < penceP f out) then true else decide ((↑((refuseL f).length):Int) < (↑(List.length out):Int))) && decide ((↑(List.length out):Int)=(↑((refuseL f).length):Int)))=true)=>(An (An (fun (y152:(((bif decide (refuseE f=0) then decide (lostV f<=penceP f out) else false) && !bif decide (lostV f < penceP f out) then true else decide ((↑((refuseL f).length):Int) < (↑(List.length out):Int))) && decide ((↑(List.length out):Int)=(↑((refuseL f).length):Int)))=true)=>y151) tv) tv)) (An (fun (y153:((bif decide (refuseE f=0) then decide (lostV f<=penceP f out) else false) && !bif decide (lostV f < penceP f out) then true else decide ((↑((refuseL f).length):Int) < (↑(List.length out):Int)))=true)=>(An (An (fun (y154:((bif decide (refuseE f=0) then decide (lostV f<=penceP f out) else false) && !bif decide (lostV f < penceP f out) then true else decide ((↑((refuseL f).length):Int) < (↑(List.length out):Int)))=true)=>y153) tv) (An (fun (y155:decide ((↑(List.length out):Int)=(↑((refuseL f).length):Int))=true)=>(o23 hpre y8 y31 y84 y98 y153 y155)) (fun (y156:decide ((↑(List.length out):Int)=(↑((refuseL f).length):Int))=false)=>tv)))) (An (fun (y157:(bif decide (refuseE f=0) then decide (lostV f<=penceP f out) else false)=true)=>(An (An (fun (y158:(bif decide (refuseE f=0) then decide (lostV f<=penceP f out) else false)=true)=>y157) tv) (An (fun (y159:(bif decide (lostV f < penceP f out) then true else decide ((↑((refuseL f).length):Int) < (↑(List.length out):Int)))=true)=>tv) (fun (y160:(bif decide (lostV f < penceP f out) then true else decide ((↑((refuseL f).length):Int) < (↑(List.length out):Int)))=false)=>(o24 hpre y8 y31 y84 y98 y157 y160))))) (An (An (fun (y161:(bif decide (refuseE f=0) then decide (lostV f<=penceP f out) else false)=true)=>y161) (fun (y162:(bif decide (refuseE f=0) then decide (lostV f<=penceP f out) else false)=false)=>tv)) (Ak 1 (An (fun (y163:(bif bif decide (refuseE f=0) then decide (lostV f<=penceP f out) else false then bif bif decide (lostV f < penceP f out) then true else decide ((↑((refuseL f).length):Int) < (↑(List.length out):Int)) then true else bif decide ((↑(List.length out):Int)=(↑((refuseL f).length):Int)) then !earlier out (refuseL f) else false else false)=true)=>(An (Ak 1 tv) (Ak 1 (An (t20) (Ak 2 (fun (i164:Env)=>tv)))))) (An (An (fun (y165:(bif bif decide (refuseE f=0) then decide (lostV f<=penceP f out) else false then bif bif decide (lostV f < penceP f out) then true else decide ((↑((refuseL f).length):Int) < (↑(List.length out):Int)) then true else bif decide ((↑(List.length out):Int)=(↑((refuseL f).length):Int)) then !earlier out (refuseL f) else false else false)=true)=>y165) (fun (y166:(bif bif decide (refuseE f=0) then decide (lostV f<=penceP f out) else false then bif bif decide (lostV f < penceP f out) then true else decide ((↑((refuseL f).length):Int) < (↑(List.length out):Int)) then true else bif decide ((↑(List.length out):Int)=(↑((refuseL f).length):Int)) then !earlier out (refuseL f) else false else false)=false)=>tv)) (Ak 1 tv)))))))))))))))))))))))))))))))))) ?_
     refine swp_ret ?_
     exact zT [] (An (Ak 1 tv) (An (An (cb (o25 hpre y8 y31 y84 y98)) (zr nilN)) (An (zr true) (An (zr true) (zr true)))))
theorem f00:decide ((0:Int)=0)=true:=rfl
theorem f03:decide ((0:Int)=3)=false:=rfl
theorem f30:decide ((3:Int)=0)=false:=rfl
theorem f33:decide ((3:Int)=3)=true:=rfl
theorem ref_facts {f : Frm} (h : okFrm f = true) : (refuseE f = 0 /\ decide (lostV f < 100000) = true /\ rising (refuseL f) 0 ((f.pieces.length : Int) - 1) = true /\ decide (penceP f (refuseL f) = lostV f) = true /\ canP f (refuseL f) = true ∧
      ∀ out,rising out 0 ((f.pieces.length:Int) - 1)=true->canP f out=true->lostV f<=penceP f out/\(lostV f < penceP f out ∨ (refuseL f).length < out.length ∨ (out.length=(refuseL f).length/\earlier out (refuseL f)=false))) ∨
    (refuseE f=3/\decide (lostV f < 100000)=false /\ ∀ out,rising out 0 ((f.pieces.length:Int) - 1)=true->canP f out=false):=by
  have hs:=sound_of h
  have hR:=refuseE_eq h
  have hL:=lost_lt hs
  cases e:refP f with
  | none =>
    right
    rw [e] at hR hL
    refine ⟨hR,decide_eq_false (fun h=>(by have:=hL.1 h; cases this)),fun out ho=>refP_none hs e (ris_iff.1 ho)⟩
  | some x =>
    left
    rw [e] at hR hL
    have e0:refuseE f=0:=hR
    obtain ⟨l1,l2,l3,_,l5⟩:=refuse_lay e0
    have l6:penceP f (refuseL f)=lostV f:=by
      rw [l2]; unfold lostN lostV; rw [if_pos h,e]; rfl
    refine ⟨e0,decide_eq_true (hL.2 rfl),ris_iff.2 l1,decide_eq_true l6,l3,fun out ho hc => ?_⟩
    have:=l5 out (ris_iff.1 ho) hc
    unfold LtK at this
    rw [l6] at this
    have t1:¬ penceP f out < lostV f:=fun h=>this (.inl h)
    refine ⟨by omega,?_⟩
    by_cases t2:lostV f < penceP f out
    · exact .inl t2
    · have t3:penceP f out=lostV f:=by omega
      by_cases t4:(refuseL f).length < out.length
      · exact .inr (.inl t4)
      · have t5:¬ out.length < (refuseL f).length:=fun h=>this (.inr ⟨t3,.inl h⟩)
        have t6:out.length=(refuseL f).length:=by omega
        refine .inr (.inr ⟨t6,?_⟩)
        cases e7:earlier out (refuseL f) with
        | false=>rfl
        | true=>exact absurd (.inr ⟨t3,.inr ⟨t6,e7⟩⟩) this
theorem nbor2z {a b:Bool} (h:(bif !a then true else b)=false):a=true/\b=false:=by cases a <;> cases b <;> first | exact ⟨rfl,rfl⟩ | cases h
theorem t9 (f:Frm) (out:List Int):Triple Try.prog 9 (s9 f out):=by
 apply w9
 all_goals (rintro ⟨hp,hol⟩)
 all_goals (first | ((repeat intro _); rename_i h; rw [h]; rfl) | skip)
 all_goals (intro h; obtain ⟨h1,h2⟩:=nbor2z h; obtain ⟨g1,g2,g3⟩:=ready_ok h1; have hpr:=ready_prod h1; have hpl:=g2.pieces; have hrl:=refuseL_len f)
 case o1=>exact g1
 case o2=>exact g3
 all_goals (rcases ref_facts g1 with ⟨a1,a2,a3,a4,a5,a6⟩ | ⟨a1,a2,b3⟩)
 all_goals (first | rw [a3,a4,a5] | rw [a3,a4] | rw [a3] | skip)
 all_goals (try simp only [a1,a2,f00,f03,f30,f33,Bool.or_true,Bool.true_or,Bool.or_false,Bool.false_or,Bool.not_true,Bool.not_false,cond_true,cond_false,Bool.and_true,Bool.true_and,Bool.and_false,Bool.false_and,beq_self_eq_true,decide_true])
 all_goals (repeat intro _)
 all_goals (try (first | exact g2 | exact hpr | contradiction | trivial | (simp only [inI,big]; omega)))
 case o8.inl=>exact ris_good g2 (ris_iff.1 a3)
 all_goals (obtain ⟨r1,r2⟩:=nbor (by assumption))
 case o20.inl | o20.inr=>exact ris_good g2 (ris_iff.1 r1)
 case o25.inr=>rw [b3 out r1] at r2; cases r2
 all_goals (obtain ⟨k1,k2⟩:=a6 out r1 r2; rw [decide_eq_true k1])
 case o21.inl=>rename_i h5; rw [h5]; rfl
 case o24.inl=>rename_i h5; rw [h5]; rfl
 case o23.inl=>rename_i h5 h6; rw [decide_eq_true k1] at h5; rw [h5,h6]; rfl
 case o25.inl =>
  by_cases t1:lostV f < penceP f out
  ·rw [decide_eq_true t1]; rfl
  ·rw [decide_eq_false t1]
   rcases k2 with k2 | k2 | ⟨k2,k3⟩
   ·exact absurd k2 t1
   ·rw [decide_eq_true (show ((refuseL f).length:Int) < (out.length:Int) by omega)]; rfl
   ·rw [decide_eq_false (show ¬ ((refuseL f).length:Int) < (out.length:Int) by omega),decide_eq_true (show (out.length:Int)=((refuseL f).length:Int) by omega),k3]; rfl
end Go.Ab
namespace Go.Ab
open Go Go.RowKit
def Dec (P:Program) (t:TypeId) {α:Type} (c:α->List AV) (ok:α->Prop):Prop :=
 ∀ {H:Type} (enc:TypeId × Value->H) (w:World) (E:Env) (fuel:Nat) (cs:List Value) (d:DataW H) (ps:List MemPlace),
  (∀ b,E.M b=w.heap[b]?)->DataW.trod enc P w 0 (fun _=>true) true fuel t cs=some (d,ps)->(∀ n ∈ d.weights P t,n<=reachBytes) -> ∃ a,ok a /\ ∀ o,RelL E o (c a) cs
theorem mcell_of {E:Env} {w:World} (h:∀ b,E.M b=w.heap[b]?) {a:Addr} {v:Value} (hc:w.cell? a=some v):a.spot=none/\mcell E.M a.block a.off=some v:=by
 refine ⟨World.cell?_spot hc,?_⟩
 have hs:=World.cell?_spot hc
 unfold World.cell? at hc
 unfold mcell
 rw [h]
 split at hc
 ·rename_i c t fr e
  rw [hs] at hc
  rw [e]
  simpa using hc
 ·cases hc
theorem lit_wf {n:Int} (h:(Lit.int .i64 n).wf=true) : -9223372036854775808<=n/\n<=9223372036854775807:=by
 simpa [Lit.wf,IntKind.min,IntKind.max,IntKind.signed,IntKind.bits] using h
theorem dec_int {P:Program} {t:TypeId} (ht:P.underlying t=some (.int .i64)):Dec P t (fun n=>[iv n]) (fun n => -9223372036854775808<=n/\n<=9223372036854775807):=by
 intro H enc w E fuel cs d ps _ h _
 obtain ⟨n,rfl,_,hw⟩:=DataW.trod_int ht h
 exact ⟨n,lit_wf hw,fun o => .cons (.lit _) rfl .nil⟩
theorem weightsAll_mem {H:Type} {P:Program} {e:TypeId}:∀ {l:List (DataW H)} {d:DataW H},d ∈ l -> ∀ n ∈ d.weights P e,n ∈ DataW.weightsAll P e l:=by
 intro l
 induction l with
 | nil=>intro d h; cases h
 | cons x l ih =>
  intro d h n hn
  rw [DataW.weightsAll,List.mem_append]
  rcases List.mem_cons.1 h with rfl | h
  ·exact .inl hn
  ·exact .inr (ih h n hn)
theorem dec_slice {P:Program} {t e:TypeId} {α:Type} [Inhabited α] {c:α->List AV} {ok:α->Prop} (ht:P.underlying t=some (.slice e)) {sz:Nat} (hsz:P.cellsOf e=sz) (hpos:0 < sz) (hby:0 < P.bytesOf e) (he:Dec P e c ok) :
  Dec P t (fun l:List α=>[.sl sz l.length (fun i=>c (l.getD i default))]) (fun l=>l.length<=140737488355328 /\ ∀ a,a ∈ l->ok a):=by
 intro H enc w E fuel cs d ps hE h hw
 rcases Deep.open_slice ht h with ⟨rfl,hx⟩ | ⟨a,len,cap,m,n,D,Pl,rfl,hb,hl,hm,hmm,hx,hall⟩
 ·refine ⟨[],⟨Nat.zero_le _,fun a ha=>by cases ha⟩,fun o => ?_⟩
  exact .cons (.slN _ _) rfl .nil
 ·simp only [if_true] at hmm
  subst hmm
  rw [hsz] at hall
  obtain ⟨rfl,rfl⟩:=Prod.mk.inj hx
  have hwt:∀ i,i < len -> ∀ k ∈ (D i).weights P e,k<=reachBytes:=by
   intro i hi k hk
   refine hw k ?_
   rw [DataW.weights,ht]
   refine List.mem_cons_of_mem _ (List.mem_append_left _ (weightsAll_mem (d:=D i) ?_ k hk))
   exact List.mem_map.2 ⟨i,List.mem_range.2 hi,rfl⟩
  have hlen:len<=140737488355328:=by
   have h1:(((List.range len).map D).length + ((List.range (m - len)).map fun j=>D (len + j)).length) * P.bytesOf e<=reachBytes:=by
    refine hw _ ?_
    rw [DataW.weights,ht]
    exact List.mem_cons_self ..
   simp only [List.length_map,List.length_range] at h1
   have h2:len<=(len + (m - len)) * P.bytesOf e:=Nat.le_trans (Nat.le_add_right _ _) (Nat.le_mul_of_pos_right _ hby)
   have h3:=reachBytes_lt
   omega
  obtain ⟨g,hg⟩:=Deep.choose_lt (α:=List Value) (p:=fun i cs'=>w.cells? 0 (a.add (i * sz)) sz=some cs'/\DataW.trod enc P w 0 (fun _=>true) true n e cs'=some (D i,Pl i)) hall
  have hdec:∀ i,i < len -> ∃ x,ok x /\ ∀ o,RelL E o (c x) (g i):=fun i hi=>he enc w E n (g i) (D i) (Pl i) hE (hg i (by omega)).2 (hwt i hi)
  obtain ⟨A,hA⟩:=Deep.choose_lt (α:=α) (p:=fun i x=>ok x /\ ∀ o,RelL E o (c x) (g i)) hdec
  refine ⟨(List.range len).map A,⟨by simpa using hlen,fun x hx => ?_⟩,fun o => .cons ?_ rfl .nil⟩
  ·obtain ⟨i,hi,rfl⟩:=List.mem_map.1 hx
   exact (hA i (List.mem_range.1 hi)).1
  ·rw [List.length_map,List.length_range]
   have hcell:∀ i k,i < m->k < sz -> ∃ v,(g i)[k]? = some v/\w.cell? ((a.add (i * sz)).add k)=some v:=by
    intro i k hi hk
    obtain ⟨_,hl1,hl2⟩:=World.cells?_some (hg i hi).1
    have:=hl2 k hk
    obtain ⟨v,hv⟩:∃ v,(g i)[k]? = some v:=⟨_,List.getElem?_eq_getElem (by omega)⟩
    exact ⟨v,hv,by rw [this,hv]⟩
   by_cases h0:m=0
   ·subst h0
    obtain rfl:len=0:=by omega
    exact .slZ _ _ _
   ·obtain ⟨v,_,hv⟩:=hcell 0 0 (by omega) hpos
    have hsp:=(mcell_of hE hv).1
    obtain ⟨b,off,spot⟩:=a
    obtain rfl:spot=none:=by simpa [Addr.add] using hsp
    refine .slA sz len _ b off m g hl hm (fun i hi => ?_) (fun i k hi hk => ?_) (fun i hi => ?_)
    ·exact (World.cells?_some (hg i (by omega)).1).2.1
    ·obtain ⟨v,hv1,hv2⟩:=hcell i k (by omega) hk
     rw [hv1]
     have:=(mcell_of hE hv2).2
     rw [addr_add,addr_add] at this
     exact this
    ·have:((List.range len).map A).getD i default=A i:=by
      rw [List.getD_eq_getElem?_getD,List.getElem?_map,List.getElem?_range hi]; rfl
     rw [this]
     exact (hA i hi).2 false
def DecFs (P:Program) (off fin:Nat) (fs:List Field) {α:Type} (c:α->List AV) (ok:α->Prop):Prop :=
 ∀ {H:Type} (enc:TypeId × Value->H) (w:World) (E:Env) (n:Nat) (cs:List Value) (xs:List (DataW H × List MemPlace)),
  (∀ b,E.M b=w.heap[b]?)->cs.length=fin->xs.length=fs.length->(∀ (i:Nat) (f:Field),fs[i]? = some f->DataW.trod enc P w 0 (fun _=>true) true n f.type ((cs.drop f.offset).take (P.cellsOf f.type))=xs[i]?) →
  (∀ k ∈ DataW.weightsEach P (fs.map (·.type)) (xs.map (·.1)),k<=reachBytes) -> ∃ a,ok a /\ ∀ o,RelL E o (c a) (cs.drop off)
theorem decFs_nil {P:Program} {fin:Nat}:DecFs P fin fin [] (fun _:Unit=>[]) (fun _=>True):=by
 intro H enc w E n cs xs _ hl _ _ _
 refine ⟨(),trivial,fun o => ?_⟩
 rw [List.drop_of_length_le (by omega)]
 exact .nil
theorem decFs_cons {P:Program} {off mid fin:Nat} {f:Field} {fs:List Field} {α β:Type} {c1:α->List AV} {ok1:α->Prop} {c2:β->List AV} {ok2:β->Prop} {t:TypeId} (hft:f.type=t) (ho:f.offset=off) (hm:off + P.cellsOf t=mid)
  (h1:Dec P t c1 ok1) (h2:DecFs P mid fin fs c2 ok2):DecFs P off fin (f :: fs) (fun p:α × β=>c1 p.1 ++ c2 p.2) (fun p=>ok1 p.1/\ok2 p.2):=by
 intro H enc w E n cs xs hE hl hx hall hw
 subst hft; subst ho; subst hm
 cases xs with
 | nil=>simp at hx
 | cons x xs =>
  have h0:=hall 0 f rfl
  simp only [List.getElem?_cons_zero] at h0
  obtain ⟨a,ha,hra⟩:=h1 enc w E n _ x.1 x.2 hE h0 (fun k hk=>hw k (by
   simp only [List.map_cons,DataW.weightsEach]
   exact List.mem_append_left _ hk))
  obtain ⟨b,hb,hrb⟩:=h2 enc w E n cs xs hE hl (by simpa using hx) (fun i g hg=>by
   have:=hall (i + 1) g (by simpa using hg)
   simpa using this) (fun k hk=>hw k (by
   simp only [List.map_cons,DataW.weightsEach]
   exact List.mem_append_right _ hk))
  refine ⟨(a,b),⟨ha,hb⟩,fun o => ?_⟩
  have:=(hra o).append (hrb o)
  rw [← List.drop_drop,List.take_append_drop] at this
  exact this
theorem dec_struct {P:Program} {t:TypeId} {fs:Array Field} {sz:Nat} {α:Type} {c:α->List AV} {ok:α->Prop} (ht:P.underlying t=some (.struct fs)) (hsz:P.cellsOf t=sz) (h:DecFs P 0 sz fs.toList c ok):Dec P t c ok:=by
 intro H enc w E fuel cs d ps hE hd hw
 obtain ⟨xs,n,_,hx,hl,hxl,hall⟩:=DataW.trod_struct ht hd
 obtain ⟨rfl,rfl⟩:=Prod.mk.inj hx
 obtain ⟨a,ha,hr⟩:=h enc w E n cs xs hE (by omega) (by simpa using hxl) (fun i f hf=>hall i f (by simpa using hf)) (fun k hk=>hw k (by rw [DataW.weights,ht]; exact hk))
 exact ⟨a,ha,fun o=>by simpa using hr o⟩
theorem Dec.map {P:Program} {t:TypeId} {α β:Type} {c:α->List AV} {ok:α->Prop} {c':β->List AV} {ok':β->Prop} (h:Dec P t c ok) (g:α->β) (hc:∀ a,ok a->c' (g a)=c a) (hok:∀ a,ok a->ok' (g a)):Dec P t c' ok':=by
 intro H enc w E fuel cs d ps hE hd hw
 obtain ⟨a,ha,hr⟩:=h enc w E fuel cs d ps hE hd hw
 exact ⟨g a,hok a ha,fun o=>by rw [hc a ha]; exact hr o⟩
theorem Dec.arg {P:Program} {t:TypeId} {α:Type} {c:α->List AV} {ok:α->Prop} (h:Dec P t c ok) {H:Type} {enc:TypeId × Value->H} {w:World} {E:Env} (hE:∀ b,E.M b=w.heap[b]?) {v:Value} {d:DataW H} {ps:List MemPlace}
  (hd:DataW.Trod enc P w 0 (fun _=>true) true t v d ps) (hw:∀ n ∈ d.weights P t,n<=reachBytes):∃ a,ok a /\ ∀ o,RelL E o (c a) v.cells.toList:=by
 obtain ⟨fuel,hf⟩:=hd
 exact h enc w E fuel _ d ps hE hf hw
def envOf (w:World):Env:={ M:=fun b=>w.heap[b]?,blk:=fun _=>none,hdr:=fun _=>none,fns:=fun _ _=>False }
theorem heapOK_of (P:Program) (w:World):HeapOK (calleeCtx P (envOf w) w []) (envOf w) (Heap.of []) w where
 os:=rfl
 tape:=rfl
 output:=rfl
 size:=Nat.le_refl _
 pres:=fun _ _=>rfl
 mem:=fun _ _ h=>h
 le:=Env.le.refl _
 ext:=fun _ _ h => .inl h
 own:=fun id ob h=>by cases h
 sep:=fun i j k _ h=>absurd rfl h
theorem trodAll_below {H:Type} {enc:TypeId × Value->H} {P:Program} (hl:laidOutB P=true) {W W':World} (hb:Below W.heap.size W W'):∀ {ts:List TypeId} {vs:List Value} {ds:List (DataW H)} {ps:List MemPlace},
  (∀ t ∈ ts,P.readableRec t=true/\t < P.types.size)->DataW.TrodAll enc P W 0 (fun _=>true) true ts vs ds ps->(∀ x ∈ ps,x.block < W.heap.size) →
  DataW.TrodAll enc P W' 0 (fun b=>decide (b < W.heap.size)) true ts vs ds ps:=by
 intro ts
 induction ts with
 | nil =>
  intro vs ds ps _ h _
  obtain ⟨rfl,rfl,rfl⟩:=ChangeShapes.trodAll_nil h
  exact ChangeShapes.trodAll_mk0
 | cons t ts ih =>
  intro vs ds ps hr h hlt
  obtain ⟨v,vs',d,ds',p,q,rfl,rfl,rfl,hd,hrest⟩:=ChangeShapes.trodAll_cons h
  obtain ⟨h1,h2⟩:=hr t (List.mem_cons_self ..)
  exact ⟨p,q,Below.trod hl h1 h2 hd hb (fun x hx=>hlt x (List.mem_append_left _ hx)),ih (fun t ht=>hr t (List.mem_cons_of_mem _ ht)) hrest (fun x hx=>hlt x (List.mem_append_right _ hx)),rfl⟩
theorem law_contract {P:Program} (hl:laidOutB P=true) {f:FuncId} {fn:Func} {s:ChangeSpec} (hvars:s.vars = []) {tb:TypeId} (hres:fn.resultTypes = #[tb]) (htb:P.underlying tb=some .bool)
  (hread:∀ t ∈ fn.params.toList,P.readableRec t=true/\t < P.types.size)
  {H:Type} {enc:TypeId × Value->H} {W:World} {args:Array Value} {ds gs:List (DataW H)} {before:List MemPlace}
  (hfn:ds.length=fn.params.size->s.fn H ds = { results:=[.lit (.bool true)],args:=ds })
  (hW:DataW.Whole enc P fn.params.toList s.vars false W args.toList ds gs before) {sp:CallSpec} (ht:Triple P f sp) (hp:sp.pre) (hfo:∀ E,sp.fnok E) (hin:sp.hin = []) (hout:sp.hout = []) (hr:sp.res=bv true)
  (hla:args.toList.length=sp.args.length) (hra:∀ k,Rel (envOf W) true (sp.args.getD k .any) (args.toList.getD k undef)) :
  Calls P f args W fun e W' => ∃ v,e = .returned v/\s.post enc P fn false true false false W args v W':=by
 have hok:=heapOK_of P W
 have h:=ht.2 hp (envOf W) W args.toList (hfo _) (by rw [hin]; exact hok) hla hra
 refine (h (by rw [hout]; intro p hp; cases hp)).mono fun e W' hpost => ?_
 obtain ⟨v,E',he,hh,hv,_⟩:=hpost
 rw [hr] at hv
 have hvt:v = .bool true:=by cases hv; rfl
 subst hvt
 have hb:Below W.heap.size W W':=⟨hh.os,hh.tape,hh.output,hh.size,fun k hk=>hh.pres k (by
  rintro (hc | ⟨q,hq,_⟩)
  ·exact absurd hk (Nat.not_lt.2 hc)
  ·rw [hin] at hq; cases hq)⟩
 refine ⟨_,he,?_⟩
 have hW':=hW
 obtain ⟨p,q,hA,hV,rfl,hz,hnd⟩:=hW
 rw [hvars] at hV
 obtain ⟨rfl,rfl⟩:=ChangeShapes.trodVars_none hV
 have hlen:ds.length=fn.params.size:=by
  have:∀ {ts:List TypeId} {vs:List Value} {ds:List (DataW H)} {ps:List MemPlace},DataW.TrodAll enc P W 0 (fun _=>true) true ts vs ds ps->ds.length=ts.length:=by
   intro ts
   induction ts with
   | nil=>intro vs ds ps h; obtain ⟨_,rfl,_⟩:=ChangeShapes.trodAll_nil h; rfl
   | cons t ts ih=>intro vs ds ps h; obtain ⟨_,_,_,_,_,_,rfl,rfl,rfl,_,hr⟩:=ChangeShapes.trodAll_cons h; simp [ih hr]
  simpa using this hA
 refine ⟨ds,[],p ++ [],[],p,[],hW',?_,?_,?_,hb.frame _,fun h=>by cases h⟩
 ·rw [List.append_nil,hfn hlen,hres]
  exact ChangeShapes.trodAll_mk1 (shut_bool htb true)
 ·rw [List.append_nil,hfn hlen]
  exact trodAll_below hl hb hread hA (fun x hx=>hW'.lt x (List.mem_append_left _ hx))
 ·rw [List.append_nil,hfn hlen,hvars]
  rfl
end Go.Ab
namespace Go.Ab
open Go Go.RowKit Go.Proofs Go.Sh Go.En
theorem dInt:Dec Try.prog 3 (fun n=>[iv n]) (fun n => -9223372036854775808<=n/\n<=9223372036854775807):=dec_int Try.underlying3
theorem dInts:Dec Try.prog 27 (fun l:List Int=>[aInts l]) (fun l=>l.length<=140737488355328) :=
 Dec.map (dec_slice (α:=Int) Try.underlying27 (by kernel_rfl) (by decide) (Nat.lt_of_lt_of_eq (by decide:0 < 8) (by kernel_rfl)) dInt) id (fun _ _=>rfl) (fun _ h=>h.1)
set_option maxRecDepth 100000
theorem laidOut:laidOutB Try.prog=true:=by kernel_rfl
section
variable {H:Type} {enc:TypeId × Value->H} {W:World} {base:Nat} {v:Value} {d:DataW H} {ps:List MemPlace}
theorem arg_struct {t:TypeId} {fs:Array Field} {α:Type} {c:α->List AV} {ok:α->Prop} (ht:Try.prog.underlying t=some (.struct fs)) (hD:Dec Try.prog t c ok) (hval:Value.okWide Try.prog W .any base t v) (hd:DataW.Trod enc Try.prog W 0 (fun _=>true) true t v d ps) (hw:∀ n ∈ d.weights Try.prog t,n<=reachBytes) :
  ∃ a,ok a/\Rel (envOf W) true (.agg (c a)) v:=by
 unfold Value.okWide at hval
 rw [ht] at hval
 obtain ⟨cs,rfl,_⟩:=hval
 obtain ⟨a,ha,hr⟩:=hD.arg (E:=envOf W) (fun _=>rfl) hd hw
 refine ⟨a,ha,?_⟩
 have h:=Rel.agg (hr true)
 simpa [Value.cells] using h
end
theorem weights_part {H:Type} {ts:List TypeId} {ds:List (DataW H)} (h:(DataW.weightsEach Try.prog ts ds).all (· <= reachBytes)=true) {j:Nat} {t:TypeId} {d:DataW H} (ht:ts[j]? = some t) (hd:ds[j]? = some d):∀ n ∈ d.weights Try.prog t,n<=reachBytes:=by
 intro n hn
 have:=List.all_eq_true.1 h _ (DataW.weights_mem_each ht hd n hn)
 simpa using this
def ArgD (t:TypeId) (α:Type) (c:α->AV) (ok:α->Prop):Prop :=
 (Try.prog.readableRec t=true/\t < Try.prog.types.size) /\ ∀ {H:Type} {enc:TypeId × Value->H} {W:World} {base:Nat} {v:Value} {d:DataW H} {ps:List MemPlace},Value.okWide Try.prog W .any base t v->DataW.Trod enc Try.prog W 0 (fun _=>true) true t v d ps->(∀ n ∈ d.weights Try.prog t,n<=reachBytes) -> ∃ a,ok a/\Rel (envOf W) true (c a) v
abbrev i64 (n:Int):Prop := -9223372036854775808<=n/\n<=9223372036854775807
theorem argStruct {t:TypeId} {fs:Array Field} {α:Type} {c:α->List AV} {ok:α->Prop} (ht:Try.prog.underlying t=some (.struct fs)) (hr:Try.prog.readableRec t=true/\t < Try.prog.types.size) (hD:Dec Try.prog t c ok):ArgD t α (fun a => .agg (c a)) ok:=⟨hr,fun hv hd hw=>arg_struct ht hD hv hd hw⟩
theorem law_two {f:FuncId} {fn:Func} {s:ChangeSpec} {t1 t2:TypeId} {α β:Type} {c1:α->AV} {c2:β->AV} {ok1:α->Prop} {ok2:β->Prop} (h1:ArgD t1 α c1 ok1) (h2:ArgD t2 β c2 ok2)
  (hps:fn.params = #[t1,t2]) (hres:fn.resultTypes = #[4]) (hvars:s.vars = []) (hfn:∀ (H:Type) (d1 d2:DataW H),s.fn H [d1,d2] = { results:=[.lit (.bool true)],args:=[d1,d2] })
  (sp:α->β->CallSpec) (ht:∀ r a,Triple Try.prog f (sp r a)) (hargs:∀ r a,(sp r a).args = [c1 r,c2 a]) (hpre:∀ r a,ok1 r->ok2 a->(sp r a).pre)
  (hfo:∀ r a E,(sp r a).fnok E) (hin:∀ r a,(sp r a).hin = []) (hout:∀ r a,(sp r a).hout = []) (hr:∀ r a,(sp r a).res=bv true)
  {H:Type} {enc:TypeId × Value->H} {W:World} {base:Nat} {args:Array Value} {ds gs:List (DataW H)} {before:List MemPlace}
  (hval:∀ (j:Nat) t v,fn.params[j]? = some t->args[j]? = some v->Value.okWide Try.prog W .any base t v) (hW:DataW.Whole enc Try.prog fn.params.toList s.vars false W args.toList ds gs before)
  (hsz:(DataW.weightsEach Try.prog (fn.params.toList ++ s.plain.varTypes Try.prog) (ds ++ gs)).all (· <= reachBytes)=true) :
  Calls Try.prog f args W fun e W' => ∃ v,e = .returned v/\s.post enc Try.prog fn false true false false W args v W':=by
 have hW':=hW
 obtain ⟨p,q,hA,_,_,_,_⟩:=hW
 rw [hps] at hA hval hsz
 obtain ⟨v0,v1,d0,d1,p0,p1,rfl,rfl,rfl,g0,g1⟩:=ChangeShapes.trodAll_two hA
 obtain ⟨r,hr0,r0⟩:=h1.2 (hval 0 t1 v0 rfl rfl) g0 (weights_part hsz (j:=0) rfl rfl)
 obtain ⟨a,ha,r1⟩:=h2.2 (hval 1 t2 v1 rfl rfl) g1 (weights_part hsz (j:=1) rfl rfl)
 refine law_contract laidOut hvars hres Try.underlying4 (fun t htt => ?_) (fun _=>hfn H d0 d1) hW' (ht r a) (hpre r a hr0 ha) (hfo r a) (hin r a) (hout r a) (hr r a) (by rw [hargs]; rfl) (fun k => ?_)
 ·rw [hps] at htt
  have:t=t1 ∨ t=t2:=by simpa using htt
  rcases this with rfl | rfl
  ·exact h1.1
  ·exact h2.1
 ·rw [hargs]
  rcases k with _ | _ | k
  ·exact r0
  ·exact r1
  ·exact .any _
theorem argInts:ArgD 27 (List Int) aInts (fun l=>l.length<=140737488355328):=⟨⟨by kernel_rfl,of_decide_eq_true (by kernel_rfl)⟩,fun {_ _ W _ v _ _} hval hd hw=>by
 obtain ⟨a,ha,hr⟩:=dInts.arg (E:=envOf W) (fun _=>rfl) hd hw
 refine ⟨a,ha,?_⟩
 have h:=hr true
 unfold Value.okWide at hval
 rw [Try.underlying27] at hval
 cases v with
 | agg cs=>unfold Cell.okWide at hval; rw [Try.underlying27] at hval; simp [Cell.ok,Try.underlying27] at hval
 | _=>cases h with | cons h _ _=>exact h⟩
end Go.Ab
namespace Go.Ab
open Go Go.RowKit Go.Proofs Go.Sh Go.En
set_option maxRecDepth 100000
theorem dSpan:Dec Try.prog 36 cSpan (fun _=>True) :=
 Dec.map (dec_struct Try.underlying36 (sz:=2) (by kernel_rfl) (decFs_cons (mid:=1) rfl rfl (by kernel_rfl) dInt (decFs_cons (mid:=2) rfl rfl (by kernel_rfl) dInt decFs_nil))) (fun p=>(⟨p.1,p.2.1⟩:Span)) (fun _ _=>rfl) (fun _ _=>trivial)
theorem dStrip:Dec Try.prog 65 cStrip (fun _=>True) :=
 Dec.map (dec_struct Try.underlying65 (sz:=2) (by kernel_rfl) (decFs_cons (mid:=1) rfl rfl (by kernel_rfl) dInt (decFs_cons (mid:=2) rfl rfl (by kernel_rfl) dInt decFs_nil))) (fun p=>(⟨p.1,p.2.1⟩:Strip)) (fun _ _=>rfl) (fun _ _=>trivial)
theorem dPiece:Dec Try.prog 46 cPiece (fun _=>True) :=
 Dec.map (dec_struct Try.underlying46 (sz:=3) (by kernel_rfl) (decFs_cons (mid:=2) rfl rfl (by kernel_rfl) dSpan (decFs_cons (mid:=3) rfl rfl (by kernel_rfl) dInt decFs_nil))) (fun p=>(⟨p.1.lo,p.1.hi,p.2.1⟩:Piece)) (fun _ _=>rfl) (fun _ _=>trivial)
theorem dStrips:Dec Try.prog 22 (fun l:List Strip=>[.sl 2 l.length (fun i=>cStrip (l.getD i default))]) (fun l=>l.length<=140737488355328 /\ ∀ m,m ∈ l->True) :=
 dec_slice (α:=Strip) Try.underlying22 (by kernel_rfl) (by decide) (Nat.lt_of_lt_of_eq (by decide:0 < 16) (by kernel_rfl)) dStrip
theorem dPieces:Dec Try.prog 23 (fun l:List Piece=>[.sl 3 l.length (fun i=>cPiece (l.getD i default))]) (fun l=>l.length<=140737488355328 /\ ∀ m,m ∈ l->True) :=
 dec_slice (α:=Piece) Try.underlying23 (by kernel_rfl) (by decide) (Nat.lt_of_lt_of_eq (by decide:0 < 24) (by kernel_rfl)) dPiece
theorem dIntss:Dec Try.prog 24 (fun l:List (List Int)=>[aIntss l]) (fun l=>l.length<=140737488355328 /\ ∀ m,m ∈ l->m.length<=140737488355328) :=
 dec_slice (α:=List Int) Try.underlying24 (by kernel_rfl) (by decide) (Nat.lt_of_lt_of_eq (by decide:0 < 24) (by kernel_rfl)) dInts
theorem dFrm:Dec Try.prog 26 cFrm fitsF:=by
 refine Dec.map (dec_struct Try.underlying26 (sz:=5) (by kernel_rfl) (decFs_cons (mid:=1) rfl rfl (by kernel_rfl) dInt (decFs_cons (mid:=2) rfl rfl (by kernel_rfl) dInt (decFs_cons (mid:=3) rfl rfl (by kernel_rfl) dStrips (decFs_cons (mid:=4) rfl rfl (by kernel_rfl) dPieces (decFs_cons (mid:=5) rfl rfl (by kernel_rfl) dIntss decFs_nil)))))) (fun p=>(⟨p.1,p.2.1,p.2.2.1,p.2.2.2.1,p.2.2.2.2.1⟩:Frm)) (fun _ _=>rfl) (fun p h => ?_)
 obtain ⟨_,_,⟨h1,_⟩,⟨h2,_⟩,⟨h3,h4⟩,_⟩:=h
 refine ⟨Nat.le_trans h1 (by decide),Nat.le_trans h2 (by decide),Nat.le_trans h3 (by decide),fun i => ?_⟩
 show (p.2.2.2.2.1.getD i []).length<=_
 by_cases hi:i < p.2.2.2.2.1.length
 ·exact Nat.le_trans (h4 _ (getD_mem _ [] hi)) (by decide)
 ·rw [getD_ge _ _ (by omega)]; exact Nat.zero_le _
theorem argFrm:ArgD 26 Frm (fun f=>vFrm f) fitsF:=argStruct Try.underlying26 ⟨by kernel_rfl,of_decide_eq_true (by kernel_rfl)⟩ dFrm
end Go.Ab
namespace Go.Proofs.Ytpnmalddfpjcoaa
open Go Go.Ab Go.Sh Go.En Go.RowKit
set_option maxRecDepth 100000
theorem own:ownKnob Try.prog.godebug=none:=by kernel_rfl
def nilArgs:Array Value := #[.agg #[.int .i64 0,.int .i64 0,.slice none 0 0,.slice none 0 0,.slice none 0 0],.slice none 0 0]
theorem lifted (os:Os) (started:os.Started) (H:Type) (enc:TypeId × Value->H) :
  ReturnsInHanded {} Try.checked os 9 .any (Rows.pagesRefusedSpec.pre6 enc Try.prog Try.f9 Rows.pagesRefusedRow.domain false) (Rows.pagesRefusedSpec.post enc Try.prog Try.f9 false true false false):=by
 refine returnsInHanded_of_change_sized (C:=Try.checked) own started (by kernel_rfl) Try.func9
  (ChangeSpec.witness6 (enc:=enc) (C:=Try.checked) false ⟨#[],nilArgs,[]⟩ 8 (by kernel_rfl) (by kernel_rfl) (by kernel_rfl) (by kernel_rfl)) ?_
 intro W base args ds gs before hval hW _ hsz _
 exact law_two argFrm argInts rfl rfl rfl (fun _ _ _=>rfl) s9 t9 (fun _ _=>rfl) (fun _ _ h0 h1=>⟨h0,Nat.le_trans h1 (by decide)⟩) (fun _ _ _=>trivial) (fun _ _=>rfl) (fun _ _=>rfl) (fun _ _=>rfl) hval hW hsz
theorem proved:Rows.PagesRefusedSaid :=
 OpenClaim.holds_of_wide 9 Try.f9 rfl rfl rfl rfl rfl rfl rfl ⟨rfl,rfl,rfl,rfl,rfl⟩ rfl rfl rfl rfl rfl (by kernel_rfl) Try.func9 (by kernel_rfl)
  (of_decide_eq_true (by kernel_rfl)) (by unfold Func.isWrapper; first | (rw [if_pos (by decide +kernel)]; kernel_rfl) | (rw [if_neg (by decide +kernel)]; exact ⟨rfl,rfl⟩))
  (fun os started H enc _=>lifted os started H enc)
end Go.Proofs.Ytpnmalddfpjcoaa
