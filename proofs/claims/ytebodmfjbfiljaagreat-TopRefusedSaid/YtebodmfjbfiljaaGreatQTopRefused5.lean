/- Part 5 of the proof: own library, plain forms and walks. -/
import Derived.Test.YtebodmfjbfiljaaGreatQTopRefused4
import Derived.Shelf.Small.Bits
set_option linter.all false
set_option linter.deprecated false
namespace Go.Ab
open Go Go.RowKit Go.Proofs Go.Sh Go.En
theorem Jhj {b:Book} (h:JaR b=false):(80:Int)=Jas b:=by unfold Jas; rw [h]; rfl
theorem Jkc {b:Book} (h:JdH b=false):(80:Int)=Jas b:=Jhj (by unfold JaR; rw [h]; rfl)
theorem Jkd {α:Type} (d:α) {l:List α} {p:α->Bool} {x:Nat} (hx:x < l.length) (h:p (l.getD x d)=false):l.all p=false:=by
 rw [List.all_eq_false]; exact ⟨_,Jbc l d hx,by rw [h]; simp⟩
theorem Jpb {b:Book} {x:Nat} (hx:x < b.lines.length) (h:okLn (lnB b x)=false):(80:Int)=Jas b:=Jhj (by unfold JaR; rw [Jkd default hx h]; simp)
theorem Jpc {b:Book} {x:Nat} (hx:x < b.ctrs.length) (h:JdI (ctB b x)=false):(80:Int)=Jas b:=Jhj (by unfold JaR; rw [Jkd default hx h]; simp)
theorem JmX {b:Book} {x:Nat} (hx:x < b.shown.length) (h:JcS b x=false):(80:Int)=Jas b:=Jhj (by
 have:(List.range b.shown.length).all (JcS b)=false:=by rw [List.all_eq_false]; exact ⟨x,List.mem_range.2 hx,by rw [h]; simp⟩
 unfold JaR; rw [this]; simp)
theorem Jpd {b:Book} (h0:JdH b=true) (h1:∀ j,j < b.lines.length->okLn (lnB b j)=true) (h2:∀ j,j < b.shown.length->JcS b j=true) (h3:∀ j,j < b.ctrs.length->JdI (ctB b j)=true):(0:Int)=Jas b:=by
 have e1:b.lines.all okLn=true:=JdD _ default _ h1
 have e2:(List.range b.shown.length).all (JcS b)=true:=by rw [List.all_eq_true]; intro x hx; exact h2 x (List.mem_range.1 hx)
 have e3:b.ctrs.all JdI=true:=JdD _ default _ h3
 unfold Jas JaR
 rw [h0,e1,e2,e3]; rfl
theorem JoB (b:Book):(bif bif bif bif decide (3 < (b.lines.length:Int)) then true else decide (6 < (b.shown.length:Int)) then true else decide (3 < (b.ctrs.length:Int)) then true else !Ja1 b.rate 0 9 then true else !Ja1 b.rep 0 b.rate) = !JdH b:=by
 unfold JdH
 cases Ja1 b.rate 0 9 <;> cases Ja1 b.rep 0 b.rate <;> by_cases h1:(3:Int) < b.lines.length <;> by_cases h2:(6:Int) < b.shown.length <;> by_cases h3:(3:Int) < b.ctrs.length <;> simp [h1,h2,h3] <;> omega
theorem ln8 (s:Span):(bif !Ja1 s.lo 0 s.hi then true else decide (9 < s.hi)) = !okLn s:=by
 unfold okLn Jay Ja1
 rw [Bool.eq_iff_iff]
 simp
 omega
theorem ct8 (c:Ctr):(bif bif bif !Ja1 c.frm 0 13 then true else !Ja1 c.days 1 7 then true else !Ja1 c.room 0 99 then true else !Ja1 c.pence 0 99) = !JdI c:=by
 unfold JdI
 cases Ja1 c.frm 0 13 <;> cases Ja1 c.days 1 7 <;> cases Ja1 c.room 0 99 <;> rfl
theorem new8 (b:Book) (x:Nat) (hx:x<=b.shown.length):hasG (b.shown.take x) (shB b x) = !(List.range x).all fun k => !decide (shB b k=shB b x):=by
 rw [Bool.eq_iff_iff]
 unfold hasG
 rw [List.any_eq_true,Bool.not_eq_true',List.all_eq_false]
 constructor
 ·rintro ⟨y,hy,h⟩
  obtain ⟨i,hi,e⟩:=List.getElem_of_mem hy
  rw [List.length_take] at hi
  refine ⟨i,List.mem_range.2 (by omega),?_⟩
  rw [List.getElem_take] at e
  have e2:shB b i=y:=by unfold shB; rw [Jaf _ _ (by omega)]; exact e
  rw [e2,h]; simp
 ·rintro ⟨k,hk,h⟩
  have hk:=List.mem_range.1 hk
  refine ⟨shB b k,?_,by simpa using h⟩
  rw [List.mem_take_iff_getElem]
  exact ⟨k,by omega,by unfold shB; rw [Jaf _ _ (by omega)]⟩
theorem sh8 (b:Book) (x:Nat) (hx:x<=b.shown.length):(bif bif bif !Ja1 (shB b x).ad 0 ((b.lines.length:Int) - 1) then true else !Ja1 (shB b x).day 0 13 then true else !Ja1 (shB b x).ed 0 2 then true else hasG (b.shown.take x) (shB b x)) = !JcS b x:=by
 rw [new8 b x hx]
 unfold JcS isAd
 cases Ja1 (shB b x).ad 0 ((b.lines.length:Int) - 1) <;> cases Ja1 (shB b x).day 0 13 <;> cases Ja1 (shB b x).ed 0 2 <;> rfl
theorem Jke (x y:Shn):(decide (x.ad=y.ad) && (decide (x.day=y.day) && (decide (x.ed=y.ed) && true)))=decide (y=x):=by
 rw [Bool.eq_iff_iff]
 simp only [Bool.and_true,Bool.and_eq_true,decide_eq_true_eq]
 constructor
 ·rintro ⟨h1,h2,h3⟩; cases x; cases y; simp only at h1 h2 h3; subst h1; subst h2; subst h3; rfl
 ·rintro rfl; exact ⟨rfl,rfl,rfl⟩
theorem Jhk (x y:Sday):(decide (x.ad=y.ad) && (decide (x.day=y.day) && true))=decide (y=x):=by
 rw [Bool.eq_iff_iff]
 simp only [Bool.and_true,Bool.and_eq_true,decide_eq_true_eq]
 constructor
 ·rintro ⟨h1,h2⟩; cases x; cases y; simp only at h1 h2; subst h1; subst h2; rfl
 ·rintro rfl; exact ⟨rfl,rfl⟩
theorem Jip {α:Type} (d:α) (l:List α) {x i:Nat} (h:i < x):(l.take x).getD i d=l.getD i d:=by
 rw [List.getD_eq_getElem?_getD,List.getD_eq_getElem?_getD,List.getElem?_take,if_pos h]
theorem w45 (n:Int) (lo:Int) (hi:Int)
  (o0:(bif decide (lo<=n) then decide (n<=hi) else false)=Ja1 n lo hi) :
  Ja4 Tryz.prog 45 (s45 n lo hi):=by
 refine Ja7 Tryz.func45 rfl Tryz.call45 Jaw _ rfl rfl rfl rfl (Nat.le_of_ble_eq_true (by kernel_rfl)) (fun _ _ _ _ h=>h) ?_
 intro _ C hC _ hE
 obtain ⟨P,w0,E0,av,hA,ro,df⟩:=C
 obtain ⟨rfl,rfl,rfl⟩:=hC
 refine Ja0 ?_
 refine zR [0,1,2] [] (Ak 1 tv) ?_
 refine Ja0 ?_
 refine zR [6] [] (Ak 4 (An (fun (y0:decide (lo<=n)=true)=>(An (Ak 1 tv) tv)) (An (fun (y1:decide (lo<=n)=true)=>(An (Ak 1 tv) tv)) (An (fun (y2:decide (lo<=n)=true)=>(An (An (fun (y3:decide (lo<=n)=true)=>y2) (An (fun (y4:decide (lo<=n)=true)=>y2) tv)) tv)) (An (An (fun (y5:decide (lo<=n)=true)=>y5) (fun (y6:decide (lo<=n)=false)=>tv)) (Ak 1 tv)))))) ?_
 refine Ja5 ?_
 exact zT [] (An (Ak 1 tv) (An (An (cb (o0)) (zr nilN)) (An (zr true) (An (zr true) (zr true)))))
theorem t45 (n lo hi:Int):Ja4 Tryz.prog 45 (s45 n lo hi):=by
 refine w45 n lo hi ?_
 unfold Ja1; cases decide (lo<=n) <;> rfl
theorem w24 (n:Int) (lo:Int) (hi:Int) :
  Ja4 Tryz.prog 24 (s24 n lo hi):=by
 refine Ja7 Tryz.func24 rfl Tryz.call24 Jaw _ rfl rfl rfl rfl (Nat.le_of_ble_eq_true (by kernel_rfl)) (fun _ _ _ _ h=>h) ?_
 intro _ C hC _ hE
 obtain ⟨P,w0,E0,av,hA,ro,df⟩:=C
 obtain ⟨rfl,rfl,rfl⟩:=hC
 refine Ja0 ?_
 refine zR [0,1,2] [] (Ak 1 tv) ?_
 refine Ja0 ?_
 refine zC ([(3,CallSpec.eq (s8 n lo hi) [true,true,true])]) [6] [] (Ak 3 (An (An (An (zr (iv n)) (An (zr (iv lo)) (An (zr (iv hi)) tv))) (An (t8 (n) (lo) (hi)) (Ak 2 (fun (i0:Env)=>tv)))) (Ak 1 tv))) ?_
 refine Ja5 ?_
 exact zT [] (An (Ak 1 tv) (An (An (zr (bv (Ja1 n lo hi))) (zr nilN)) (An (zr true) (An (zr true) (zr true)))))
theorem t24 (n lo hi:Int):Ja4 Tryz.prog 24 (s24 n lo hi):=by
 apply w24
theorem w25 (b:Book) (n:Int)
  (o0:Jin b->inI ((↑(b.lines.length):Int) - 1))
  (o1:Jin b->Ja1 n 0 ((↑(b.lines.length):Int) - 1)=isAd b n) :
  Ja4 Tryz.prog 25 (s25 b n):=by
 refine Ja7 Tryz.func25 rfl Tryz.call25 Jaw _ rfl rfl rfl rfl (Nat.le_of_ble_eq_true (by kernel_rfl)) (fun _ _ _ _ h=>h) ?_
 intro hpre C hC _ hE
 obtain ⟨P,w0,E0,av,hA,ro,df⟩:=C
 obtain ⟨rfl,rfl,rfl⟩:=hC
 refine Ja0 ?_
 refine zR [1,2] [0] (Ak 2 tv) ?_
 refine Ja0 ?_
 refine zC ([(5,CallSpec.eq (s24 n 0 ((↑(b.lines.length):Int) - 1)) [true,true,true])]) [4] [] (Ak 4 (An (o0 hpre) (An (An (An (zr (iv n)) (An (zr (iv 0)) (An (zr (iv ((↑(b.lines.length):Int) - 1))) tv))) (An (t24 (n) (0) ((↑(b.lines.length):Int) - 1)) (Ak 2 (fun (i0:Env)=>tv)))) (Ak 1 tv)))) ?_
 refine Ja5 ?_
 exact zT [] (An (Ak 1 tv) (An (An (cb (o1 hpre)) (zr nilN)) (An (zr true) (An (zr true) (zr true)))))
theorem t25 (b:Book) (n:Int):Ja4 Tryz.prog 25 (s25 b n):=by
 apply w25
 all_goals (intro hp; first | rfl | (simp only [Jin,big,inI] at *; omega))
abbrev q4r (l:List Shn) (Pq:Prop):Prop:=l.length<=65536->Pq
abbrev q4s (l:List Shn) (x:Shn) (x0:Nat) (Pq:Prop):Prop:=(x0<=l.length /\ ∀ (j:Nat),j < x0->decide (l.getD j default=x)=false)->Pq
abbrev q4t (l:List Shn) (x:Shn) (x0:Nat) (Pq:Prop):Prop:=q4s l x x0 (decide ((x0:Int) < (↑(l.length):Int))=true->Pq)
abbrev q4u (l:List Shn) (x:Shn) (x0:Nat) (Pq:Prop):Prop:=q4t l x x0 ((decide (x.ad=(l.getD x0 default).ad) && (decide (x.day=(l.getD x0 default).day) && (decide (x.ed=(l.getD x0 default).ed) && true)))=false->Pq)
theorem w80 (l:List Shn) (x:Shn)
 (o0:List.length l<=65536->0=(↑0:Int))
 (o1:q4r l (0<=l.length /\ ∀ (j:Nat),j < 0->decide (l.getD j default=x)=false))
 (o2:q4r l (∀ (x0:Nat),q4t l x x0 (0<=(x0:Int))))
 (o3:q4r l (∀ (x0:Nat),q4t l x x0 ((x0:Int) < (↑(l.length):Int))))
 (o4:q4r l (∀ (x0:Nat),q4t l x x0 ((decide (x.ad=(l.getD x0 default).ad) && (decide (x.day=(l.getD x0 default).day) && (decide (x.ed=(l.getD x0 default).ed) && true)))=true->(x0:Int)=idxG l x)))
 (o5:q4r l (∀ (x0:Nat),q4u l x x0 (inI ((x0:Int) + 1))))
 (o6:q4r l (∀ (x0:Nat),q4u l x x0 ((x0:Int) + 1=(↑(x0 + 1):Int))))
 (o7:q4r l (∀ (x0:Nat),q4u l x x0 (x0 + 1<=l.length /\ ∀ (j:Nat),j < x0 + 1->decide (l.getD j default=x)=false)))
 (o8:q4r l (∀ (x0:Nat),q4u l x x0 (l.length - (x0 + 1) < l.length - x0)))
 (o9:q4r l (∀ (x0:Nat),q4s l x x0 (decide ((x0:Int) < (↑(l.length):Int))=false -> -1=idxG l x))) :
  Ja4 Tryz.prog 80 (s80 l x):=by
 refine Ja7 Tryz.func80 rfl Tryz.call80 Jaw _ rfl rfl rfl rfl (Nat.le_of_ble_eq_true (by kernel_rfl)) (fun _ _ _ _ h=>h) ?_
 intro hpre C hC _ hE
 obtain ⟨P,w0,E0,av,hA,ro,df⟩:=C
 obtain ⟨rfl,rfl,rfl⟩:=hC
 refine Ja0 ?_
 refine zR [0,3] [0] (Ak 2 tv) ?_
 refine Ja0 ?_
 refine Ja0 ?_
 refine zR [0,3,7,8] [0] (Ak 3 tv) ?_
 refine Ja2 ?_
 refine zL (Hint.ann (h80 l x) [(0,Jl6 l),(3,AV.ptr 0 []),(7,iv (↑(l.length):Int))] [(0,OB.cells 46 (cShn x))] 10040) (zE hE [] [(0,.same 0)] [0,7] [0] (An (An (An (zr (Jl6 l)) (zr true)) (An (An (zr (some (Src.same 0))) (zr nilP)) (An (An (zr (iv (↑(l.length):Int))) (zr true)) (An (An (ci (o0 hpre)) (zr nilN)) tv)))) (An (An (An (zr (OB.cells 46 (cShn x))) (zr true)) tv) (An (zr true) (zr true))))) (o1 hpre) (fun (x0:Nat) hx0 => ?_)
 refine Ja0 ?_
 refine zR [0,3,7,8,9] [0] (Ak 1 tv) ?_
 refine Ja0 ?_
 refine zI (decide ((x0:Int) < (↑(l.length):Int))) (fun y1 => ?_) (fun y1 => ?_)
 ·refine Ja3 ?_
  refine Ja0 ?_
  refine Ja2 ?_
  refine Ja0 ?_
  refine zR [0,3,7,8,5] [0] (Ak 2 tv) ?_
  refine Ja0 ?_
  refine zR [0,3,7,8,5,16] [0] (Ak 3 (An (An (o2 hpre x0 hx0 y1) (o3 hpre x0 hx0 y1)) (Ak 2 tv))) ?_
  refine zI (decide (x.ad=(l.getD x0 default).ad) && (decide (x.day=(l.getD x0 default).day) && (decide (x.ed=(l.getD x0 default).ed) && true))) (fun y2 => ?_) (fun y2 => ?_)
  ·refine Ja0 ?_
   refine zR [4] [] (Ak 2 tv) ?_
   refine Ja5 ?_
   exact zT [] (An (Ak 1 tv) (An (An (ci (o4 hpre x0 hx0 y1 y2)) (zr nilN)) (An (zr true) (An (zr true) (zr true)))))
  ·refine Ja3 ?_
   refine zR [0,3,7,8] [0] (An (o5 hpre x0 hx0 y1 y2) (Ak 1 tv)) ?_
   exact zn (zE hE [] [(0,.same 0)] [0,7] [0] (An (An (An (zr (Jl6 l)) (zr true)) (An (An (zr (some (Src.same 0))) (zr nilP)) (An (An (zr (iv (↑(l.length):Int))) (zr true)) (An (An (ci (o6 hpre x0 hx0 y1 y2)) (zr nilN)) tv)))) (An (An (An (zr (OB.cells 46 (cShn x))) (zr true)) tv) (An (zr true) (zr true))))) (o7 hpre x0 hx0 y1 y2) (o8 hpre x0 hx0 y1 y2)
 ·refine Jaa ?_
  refine Ja0 ?_
  refine zR [4] [] (Ak 1 tv) ?_
  refine Ja5 ?_
  exact zT [] (An (Ak 1 tv) (An (An (ci (o9 hpre x0 hx0 y1)) (zr nilN)) (An (zr true) (An (zr true) (zr true)))))
theorem t80 (l:List Shn) (x:Shn):Ja4 Tryz.prog 80 (s80 l x):=by
 apply w80
 all_goals (try delta q4r q4s q4t q4u)
 case o4=>intro hp i hi hl h; rw [Jke] at h; simp only [decide_eq_true_eq] at hl; exact (Jgw default (by omega) hi.2 h).symm
 case o7=>intro hp i hi hl h; rw [Jke] at h; simp only [decide_eq_true_eq] at hl; exact ⟨by omega,Jad hi.2 h⟩
 case o9=>intro hp i hi hl; simp only [decide_eq_false_iff_not] at hl; exact (Jio default fun j hj=>hi.2 j (by omega)).symm
 all_goals (try ((repeat intro _) <;> (try simp only [Bool.cond_true_left,Bool.cond_false_right,Bool.not_not,Bool.not_eq_true',Bool.not_eq_false',Bool.or_eq_true,Bool.or_eq_false_iff,Bool.and_eq_true,decide_eq_true_eq,decide_eq_false_iff_not,inI,big] at *) <;> first | (exact rfl) | omega | (exact ⟨Nat.zero_le _,fun j hj=>absurd hj (Nat.not_lt_zero j)⟩) | (simp_all; done) | (simp_all; omega)))
theorem w71 (l:List Shn) (x:Shn)
  (o0:l.length<=65536->decide (0<=idxG l x)=hasG l x) :
  Ja4 Tryz.prog 71 (s71 l x):=by
 refine Ja7 Tryz.func71 rfl Tryz.call71 Jaw _ rfl rfl rfl rfl (Nat.le_of_ble_eq_true (by kernel_rfl)) (fun _ _ _ _ h=>h) ?_
 intro hpre C hC _ hE
 obtain ⟨P,w0,E0,av,hA,ro,df⟩:=C
 obtain ⟨rfl,rfl,rfl⟩:=hC
 refine Ja0 ?_
 refine zR [0,3] [0] (Ak 2 tv) ?_
 refine Ja0 ?_
 refine zC ([(2,CallSpec.eq (s80 l x) [true,true])]) [4] [] (Ak 2 (An (An (An (zr (Jl6 l)) (An (zr (AV.agg (cShn x))) tv)) (An (t80 (l) (x)) (An hpre (Ak 1 (fun (i0:Env)=>tv))))) (Ak 2 tv))) ?_
 refine Ja5 ?_
 exact zT [] (An (Ak 1 tv) (An (An (cb (o0 hpre)) (zr nilN)) (An (zr true) (An (zr true) (zr true)))))
theorem t71 (l:List Shn) (x:Shn):Ja4 Tryz.prog 71 (s71 l x):=by
 apply w71
 intro _; exact Jkb l x
abbrev q4v (l:List Sday) (Pq:Prop):Prop:=l.length<=65536->Pq
abbrev q4w (l:List Sday) (x:Sday) (x0:Nat) (Pq:Prop):Prop:=(x0<=l.length /\ ∀ (j:Nat),j < x0->decide (l.getD j default=x)=false)->Pq
abbrev q4x (l:List Sday) (x:Sday) (x0:Nat) (Pq:Prop):Prop:=q4w l x x0 (decide ((x0:Int) < (↑(l.length):Int))=true->Pq)
abbrev q4y (l:List Sday) (x:Sday) (x0:Nat) (Pq:Prop):Prop:=q4x l x x0 ((decide (x.ad=(l.getD x0 default).ad) && (decide (x.day=(l.getD x0 default).day) && true))=false->Pq)
theorem w94 (l:List Sday) (x:Sday)
 (o0:List.length l<=65536->0=(↑0:Int))
 (o1:q4v l (0<=l.length /\ ∀ (j:Nat),j < 0->decide (l.getD j default=x)=false))
 (o2:q4v l (∀ (x0:Nat),q4x l x x0 (0<=(x0:Int))))
 (o3:q4v l (∀ (x0:Nat),q4x l x x0 ((x0:Int) < (↑(l.length):Int))))
 (o4:q4v l (∀ (x0:Nat),q4x l x x0 ((decide (x.ad=(l.getD x0 default).ad) && (decide (x.day=(l.getD x0 default).day) && true))=true->(x0:Int)=idxG l x)))
 (o5:q4v l (∀ (x0:Nat),q4y l x x0 (inI ((x0:Int) + 1))))
 (o6:q4v l (∀ (x0:Nat),q4y l x x0 ((x0:Int) + 1=(↑(x0 + 1):Int))))
 (o7:q4v l (∀ (x0:Nat),q4y l x x0 (x0 + 1<=l.length /\ ∀ (j:Nat),j < x0 + 1->decide (l.getD j default=x)=false)))
 (o8:q4v l (∀ (x0:Nat),q4y l x x0 (l.length - (x0 + 1) < l.length - x0)))
 (o9:q4v l (∀ (x0:Nat),q4w l x x0 (decide ((x0:Int) < (↑(l.length):Int))=false -> -1=idxG l x))) :
  Ja4 Tryz.prog 94 (s94 l x):=by
 refine Ja7 Tryz.func94 rfl Tryz.call94 Jaw _ rfl rfl rfl rfl (Nat.le_of_ble_eq_true (by kernel_rfl)) (fun _ _ _ _ h=>h) ?_
 intro hpre C hC _ hE
 obtain ⟨P,w0,E0,av,hA,ro,df⟩:=C
 obtain ⟨rfl,rfl,rfl⟩:=hC
 refine Ja0 ?_
 refine zR [0,3] [0] (Ak 2 tv) ?_
 refine Ja0 ?_
 refine Ja0 ?_
 refine zR [0,3,7,8] [0] (Ak 3 tv) ?_
 refine Ja2 ?_
 refine zL (Hint.ann (h94 l x) [(0,JdJ l),(3,AV.ptr 0 []),(7,iv (↑(l.length):Int))] [(0,OB.cells 110 (JaJ x))] 10040) (zE hE [] [(0,.same 0)] [0,7] [0] (An (An (An (zr (JdJ l)) (zr true)) (An (An (zr (some (Src.same 0))) (zr nilP)) (An (An (zr (iv (↑(l.length):Int))) (zr true)) (An (An (ci (o0 hpre)) (zr nilN)) tv)))) (An (An (An (zr (OB.cells 110 (JaJ x))) (zr true)) tv) (An (zr true) (zr true))))) (o1 hpre) (fun (x0:Nat) hx0 => ?_)
 refine Ja0 ?_
 refine zR [0,3,7,8,9] [0] (Ak 1 tv) ?_
 refine Ja0 ?_
 refine zI (decide ((x0:Int) < (↑(l.length):Int))) (fun y1 => ?_) (fun y1 => ?_)
 ·refine Ja3 ?_
  refine Ja0 ?_
  refine Ja2 ?_
  refine Ja0 ?_
  refine zR [0,3,7,8,5] [0] (Ak 2 tv) ?_
  refine Ja0 ?_
  refine zR [0,3,7,8,5,16] [0] (Ak 3 (An (An (o2 hpre x0 hx0 y1) (o3 hpre x0 hx0 y1)) (Ak 2 tv))) ?_
  refine zI (decide (x.ad=(l.getD x0 default).ad) && (decide (x.day=(l.getD x0 default).day) && true)) (fun y2 => ?_) (fun y2 => ?_)
  ·refine Ja0 ?_
   refine zR [4] [] (Ak 2 tv) ?_
   refine Ja5 ?_
   exact zT [] (An (Ak 1 tv) (An (An (ci (o4 hpre x0 hx0 y1 y2)) (zr nilN)) (An (zr true) (An (zr true) (zr true)))))
  ·refine Ja3 ?_
   refine zR [0,3,7,8] [0] (An (o5 hpre x0 hx0 y1 y2) (Ak 1 tv)) ?_
   exact zn (zE hE [] [(0,.same 0)] [0,7] [0] (An (An (An (zr (JdJ l)) (zr true)) (An (An (zr (some (Src.same 0))) (zr nilP)) (An (An (zr (iv (↑(l.length):Int))) (zr true)) (An (An (ci (o6 hpre x0 hx0 y1 y2)) (zr nilN)) tv)))) (An (An (An (zr (OB.cells 110 (JaJ x))) (zr true)) tv) (An (zr true) (zr true))))) (o7 hpre x0 hx0 y1 y2) (o8 hpre x0 hx0 y1 y2)
 ·refine Jaa ?_
  refine Ja0 ?_
  refine zR [4] [] (Ak 1 tv) ?_
  refine Ja5 ?_
  exact zT [] (An (Ak 1 tv) (An (An (ci (o9 hpre x0 hx0 y1)) (zr nilN)) (An (zr true) (An (zr true) (zr true)))))
theorem t94 (l:List Sday) (x:Sday):Ja4 Tryz.prog 94 (s94 l x):=by
 apply w94
 all_goals (try delta q4v q4w q4x q4y)
 case o4=>intro hp i hi hl h; rw [Jhk] at h; simp only [decide_eq_true_eq] at hl; exact (Jgw default (by omega) hi.2 h).symm
 case o7=>intro hp i hi hl h; rw [Jhk] at h; simp only [decide_eq_true_eq] at hl; exact ⟨by omega,Jad hi.2 h⟩
 case o9=>intro hp i hi hl; simp only [decide_eq_false_iff_not] at hl; exact (Jio default fun j hj=>hi.2 j (by omega)).symm
 all_goals (try ((repeat intro _) <;> (try simp only [Bool.cond_true_left,Bool.cond_false_right,Bool.not_not,Bool.not_eq_true',Bool.not_eq_false',Bool.or_eq_true,Bool.or_eq_false_iff,Bool.and_eq_true,decide_eq_true_eq,decide_eq_false_iff_not,inI,big] at *) <;> first | (exact rfl) | omega | (exact ⟨Nat.zero_le _,fun j hj=>absurd hj (Nat.not_lt_zero j)⟩) | (simp_all; done) | (simp_all; omega)))
theorem w79 (l:List Sday) (x:Sday)
  (o0:l.length<=65536->decide (0<=idxG l x)=hasG l x) :
  Ja4 Tryz.prog 79 (s79 l x):=by
 refine Ja7 Tryz.func79 rfl Tryz.call79 Jaw _ rfl rfl rfl rfl (Nat.le_of_ble_eq_true (by kernel_rfl)) (fun _ _ _ _ h=>h) ?_
 intro hpre C hC _ hE
 obtain ⟨P,w0,E0,av,hA,ro,df⟩:=C
 obtain ⟨rfl,rfl,rfl⟩:=hC
 refine Ja0 ?_
 refine zR [0,3] [0] (Ak 2 tv) ?_
 refine Ja0 ?_
 refine zC ([(2,CallSpec.eq (s94 l x) [true,true])]) [4] [] (Ak 2 (An (An (An (zr (JdJ l)) (An (zr (AV.agg (JaJ x))) tv)) (An (t94 (l) (x)) (An hpre (Ak 1 (fun (i0:Env)=>tv))))) (Ak 2 tv))) ?_
 refine Ja5 ?_
 exact zT [] (An (Ak 1 tv) (An (An (cb (o0 hpre)) (zr nilN)) (An (zr true) (An (zr true) (zr true)))))
theorem t79 (l:List Sday) (x:Sday):Ja4 Tryz.prog 79 (s79 l x):=by
 apply w79
 intro _; exact Jkb l x
abbrev q4z (b:Book) (Pq:Prop):Prop:=JaZ b->Pq
abbrev q50 (b:Book) (Pq:Prop):Prop:=q4z b ((bif bif bif bif decide (3 < (↑(b.lines.length):Int)) then true else decide (6 < (↑(b.shown.length):Int)) then true else decide (3 < (↑(b.ctrs.length):Int)) then true else !Ja1 b.rate 0 9 then true else !Ja1 b.rep 0 b.rate)=false->Pq)
abbrev q51 (b:Book) (x43:Nat) (Pq:Prop):Prop:=(x43<=b.lines.length /\ ∀ (j:Nat),j < x43->okLn (lnB b j)=true)->Pq
abbrev q52 (b:Book) (x43:Nat) (Pq:Prop):Prop:=q51 b x43 (decide ((x43:Int) < (↑(b.lines.length):Int))=true->Pq)
abbrev q53 (b:Book) (x43:Nat) (Pq:Prop):Prop:=q52 b x43 ((bif !Ja1 (lnB b x43).lo 0 (lnB b x43).hi then true else decide (9 < (lnB b x43).hi))=false->Pq)
abbrev q54 (b:Book) (x43:Nat) (Pq:Prop):Prop:=q51 b x43 (decide ((x43:Int) < (↑(b.lines.length):Int))=false->Pq)
abbrev q55 (b:Book) (x54:Nat) (Pq:Prop):Prop:=(x54<=b.shown.length /\ ∀ (j:Nat),j < x54->JcS b j=true)->Pq
abbrev q56 (b:Book) (x54:Nat) (Pq:Prop):Prop:=q55 b x54 (decide ((x54:Int) < (↑(b.shown.length):Int))=true->Pq)
abbrev q57 (b:Book) (x54:Nat) (Pq:Prop):Prop:=q56 b x54 ((!bif bif !Ja1 (shB b x54).ad 0 ((↑(b.lines.length):Int) - 1) then true else !Ja1 (shB b x54).day 0 13 then true else !Ja1 (shB b x54).ed 0 2)=true->Pq)
abbrev q58 (b:Book) (x54:Nat) (Pq:Prop):Prop:=q56 b x54 ((bif bif bif !Ja1 (shB b x54).ad 0 ((↑(b.lines.length):Int) - 1) then true else !Ja1 (shB b x54).day 0 13 then true else !Ja1 (shB b x54).ed 0 2 then true else hasG (List.take x54 b.shown) (shB b x54))=false->Pq)
abbrev q59 (b:Book) (x54:Nat) (Pq:Prop):Prop:=q55 b x54 (decide ((x54:Int) < (↑(b.shown.length):Int))=false->Pq)
abbrev q5a (b:Book) (x94:Nat) (Pq:Prop):Prop:=(x94<=b.ctrs.length /\ ∀ (j:Nat),j < x94->JdI (ctB b j)=true)->Pq
abbrev q5b (b:Book) (x94:Nat) (Pq:Prop):Prop:=q5a b x94 (decide ((x94:Int) < (↑(b.ctrs.length):Int))=true->Pq)
abbrev q5c (b:Book) (x94:Nat) (Pq:Prop):Prop:=q5b b x94 ((bif bif bif !Ja1 (ctB b x94).frm 0 13 then true else !Ja1 (ctB b x94).days 1 7 then true else !Ja1 (ctB b x94).room 0 99 then true else !Ja1 (ctB b x94).pence 0 99)=false->Pq)
theorem w52 (b:Book)
 (o0:q4z b (decide (3 < (↑(b.lines.length):Int))=false->(!decide (3 < (↑(b.lines.length):Int)))=true))
 (o1:q4z b ((bif decide (3 < (↑(b.lines.length):Int)) then true else decide (6 < (↑(b.shown.length):Int)))=false->(!bif decide (3 < (↑(b.lines.length):Int)) then true else decide (6 < (↑(b.shown.length):Int)))=true))
 (o2:q4z b ((bif bif decide (3 < (↑(b.lines.length):Int)) then true else decide (6 < (↑(b.shown.length):Int)) then true else decide (3 < (↑(b.ctrs.length):Int)))=false->(!bif bif decide (3 < (↑(b.lines.length):Int)) then true else decide (6 < (↑(b.shown.length):Int)) then true else decide (3 < (↑(b.ctrs.length):Int)))=true))
 (o3:q4z b ((bif bif bif decide (3 < (↑(b.lines.length):Int)) then true else decide (6 < (↑(b.shown.length):Int)) then true else decide (3 < (↑(b.ctrs.length):Int)) then true else !Ja1 b.rate 0 9)=false->(!bif bif bif decide (3 < (↑(b.lines.length):Int)) then true else decide (6 < (↑(b.shown.length):Int)) then true else decide (3 < (↑(b.ctrs.length):Int)) then true else !Ja1 b.rate 0 9)=true))
 (o4:q4z b ((bif bif bif bif decide (3 < (↑(b.lines.length):Int)) then true else decide (6 < (↑(b.shown.length):Int)) then true else decide (3 < (↑(b.ctrs.length):Int)) then true else !Ja1 b.rate 0 9 then true else !Ja1 b.rep 0 b.rate)=true->80=Jas b))
 (o5:q50 b (0=(↑0:Int)))
 (o6:q50 b (0<=b.lines.length /\ ∀ (j:Nat),j < 0->okLn (lnB b j)=true))
 (o7:q50 b (∀ (x43:Nat),q52 b x43 (0<=(x43:Int))))
 (o8:q50 b (∀ (x43:Nat),q52 b x43 ((x43:Int) < (↑(b.lines.length):Int))))
 (o9:q50 b (∀ (x43:Nat),q52 b x43 ((!Ja1 (lnB b x43).lo 0 (lnB b x43).hi)=false->(!!Ja1 (lnB b x43).lo 0 (lnB b x43).hi)=true)))
 (o10:q50 b (∀ (x43:Nat),q52 b x43 ((bif !Ja1 (lnB b x43).lo 0 (lnB b x43).hi then true else decide (9 < (lnB b x43).hi))=true->80=Jas b)))
 (o11:q50 b (∀ (x43:Nat),q53 b x43 (inI ((x43:Int) + 1))))
 (o12:q50 b (∀ (x43:Nat),q53 b x43 ((x43:Int) + 1=(↑(x43 + 1):Int))))
 (o13:q50 b (∀ (x43:Nat),q53 b x43 (x43 + 1<=b.lines.length /\ ∀ (j:Nat),j < x43 + 1->okLn (lnB b j)=true)))
 (o14:q50 b (∀ (x43:Nat),q53 b x43 (b.lines.length - (x43 + 1) < b.lines.length - x43)))
 (o15:q50 b (∀ (x43:Nat),q54 b x43 (0=(↑0:Int))))
 (o16:q50 b (∀ (x43:Nat),q54 b x43 (0<=b.shown.length /\ ∀ (j:Nat),j < 0->JcS b j=true)))
 (o17:q50 b (∀ (x43:Nat),q54 b x43 (∀ (x54:Nat),q56 b x54 (0<=(x54:Int)))))
 (o18:q50 b (∀ (x43:Nat),q54 b x43 (∀ (x54:Nat),q56 b x54 ((x54:Int) < (↑(b.shown.length):Int)))))
 (o19:q50 b (∀ (x43:Nat),q54 b x43 (∀ (x54:Nat),q56 b x54 (inI ((↑(b.lines.length):Int) - 1)))))
 (o20:q50 b (∀ (x43:Nat),q54 b x43 (∀ (x54:Nat),q56 b x54 ((!Ja1 (shB b x54).ad 0 ((↑(b.lines.length):Int) - 1))=false->(!!Ja1 (shB b x54).ad 0 ((↑(b.lines.length):Int) - 1))=true))))
 (o21:q50 b (∀ (x43:Nat),q54 b x43 (∀ (x54:Nat),q56 b x54 ((bif !Ja1 (shB b x54).ad 0 ((↑(b.lines.length):Int) - 1) then true else !Ja1 (shB b x54).day 0 13)=false->(!bif !Ja1 (shB b x54).ad 0 ((↑(b.lines.length):Int) - 1) then true else !Ja1 (shB b x54).day 0 13)=true))))
 (o22:q50 b (∀ (x43:Nat),q54 b x43 (∀ (x54:Nat),q57 b x54 (0<=(x54:Int)))))
 (o23:q50 b (∀ (x43:Nat),q54 b x43 (∀ (x54:Nat),q57 b x54 ((x54:Int)<=(↑(b.shown.length):Int)))))
 (o24:q50 b (∀ (x43:Nat),q54 b x43 (∀ (x54:Nat),q57 b x54 (x54=(List.take x54 b.shown).length))))
 (o25:q50 b (∀ (x43:Nat),q54 b x43 (∀ (x54:Nat),q57 b x54 (∀ (i88:Nat),i88 < (List.take x54 b.shown).length->cShn (shB b i88)=cShn ((List.take x54 b.shown).getD i88 default)))))
 (o26:q50 b (∀ (x43:Nat),q54 b x43 (∀ (x54:Nat),q57 b x54 ((List.take x54 b.shown).length<=65536))))
 (o27:q50 b (∀ (x43:Nat),q54 b x43 (∀ (x54:Nat),q56 b x54 ((bif bif !Ja1 (shB b x54).ad 0 ((↑(b.lines.length):Int) - 1) then true else !Ja1 (shB b x54).day 0 13 then true else !Ja1 (shB b x54).ed 0 2)=false->(!bif bif !Ja1 (shB b x54).ad 0 ((↑(b.lines.length):Int) - 1) then true else !Ja1 (shB b x54).day 0 13 then true else !Ja1 (shB b x54).ed 0 2)=true))))
 (o28:q50 b (∀ (x43:Nat),q54 b x43 (∀ (x54:Nat),q56 b x54 ((bif bif bif !Ja1 (shB b x54).ad 0 ((↑(b.lines.length):Int) - 1) then true else !Ja1 (shB b x54).day 0 13 then true else !Ja1 (shB b x54).ed 0 2 then true else hasG (List.take x54 b.shown) (shB b x54))=true->80=Jas b))))
 (o29:q50 b (∀ (x43:Nat),q54 b x43 (∀ (x54:Nat),q58 b x54 (inI ((x54:Int) + 1)))))
 (o30:q50 b (∀ (x43:Nat),q54 b x43 (∀ (x54:Nat),q58 b x54 ((x54:Int) + 1=(↑(x54 + 1):Int)))))
 (o31:q50 b (∀ (x43:Nat),q54 b x43 (∀ (x54:Nat),q58 b x54 (x54 + 1<=b.shown.length /\ ∀ (j:Nat),j < x54 + 1->JcS b j=true))))
 (o32:q50 b (∀ (x43:Nat),q54 b x43 (∀ (x54:Nat),q58 b x54 (b.shown.length - (x54 + 1) < b.shown.length - x54))))
 (o33:q50 b (∀ (x43:Nat),q54 b x43 (∀ (x54:Nat),q59 b x54 (0=(↑0:Int)))))
 (o34:q50 b (∀ (x43:Nat),q54 b x43 (∀ (x54:Nat),q59 b x54 (0<=b.ctrs.length /\ ∀ (j:Nat),j < 0->JdI (ctB b j)=true))))
 (o35:q50 b (∀ (x43:Nat),q54 b x43 (∀ (x54:Nat),q59 b x54 (∀ (x94:Nat),q5b b x94 (0<=(x94:Int))))))
 (o36:q50 b (∀ (x43:Nat),q54 b x43 (∀ (x54:Nat),q59 b x54 (∀ (x94:Nat),q5b b x94 ((x94:Int) < (↑(b.ctrs.length):Int))))))
 (o37:q50 b (∀ (x43:Nat),q54 b x43 (∀ (x54:Nat),q59 b x54 (∀ (x94:Nat),q5b b x94 ((!Ja1 (ctB b x94).frm 0 13)=false->(!!Ja1 (ctB b x94).frm 0 13)=true)))))
 (o38:q50 b (∀ (x43:Nat),q54 b x43 (∀ (x54:Nat),q59 b x54 (∀ (x94:Nat),q5b b x94 ((bif !Ja1 (ctB b x94).frm 0 13 then true else !Ja1 (ctB b x94).days 1 7)=false->(!bif !Ja1 (ctB b x94).frm 0 13 then true else !Ja1 (ctB b x94).days 1 7)=true)))))
 (o39:q50 b (∀ (x43:Nat),q54 b x43 (∀ (x54:Nat),q59 b x54 (∀ (x94:Nat),q5b b x94 ((bif bif !Ja1 (ctB b x94).frm 0 13 then true else !Ja1 (ctB b x94).days 1 7 then true else !Ja1 (ctB b x94).room 0 99)=false->(!bif bif !Ja1 (ctB b x94).frm 0 13 then true else !Ja1 (ctB b x94).days 1 7 then true else !Ja1 (ctB b x94).room 0 99)=true)))))
 (o40:q50 b (∀ (x43:Nat),q54 b x43 (∀ (x54:Nat),q59 b x54 (∀ (x94:Nat),q5b b x94 ((bif bif bif !Ja1 (ctB b x94).frm 0 13 then true else !Ja1 (ctB b x94).days 1 7 then true else !Ja1 (ctB b x94).room 0 99 then true else !Ja1 (ctB b x94).pence 0 99)=true->80=Jas b)))))
 (o41:q50 b (∀ (x43:Nat),q54 b x43 (∀ (x54:Nat),q59 b x54 (∀ (x94:Nat),q5c b x94 (inI ((x94:Int) + 1))))))
 (o42:q50 b (∀ (x43:Nat),q54 b x43 (∀ (x54:Nat),q59 b x54 (∀ (x94:Nat),q5c b x94 ((x94:Int) + 1=(↑(x94 + 1):Int))))))
 (o43:q50 b (∀ (x43:Nat),q54 b x43 (∀ (x54:Nat),q59 b x54 (∀ (x94:Nat),q5c b x94 (x94 + 1<=b.ctrs.length /\ ∀ (j:Nat),j < x94 + 1->JdI (ctB b j)=true)))))
 (o44:q50 b (∀ (x43:Nat),q54 b x43 (∀ (x54:Nat),q59 b x54 (∀ (x94:Nat),q5c b x94 (b.ctrs.length - (x94 + 1) < b.ctrs.length - x94)))))
 (o45:q50 b (∀ (x43:Nat),q54 b x43 (∀ (x54:Nat),q59 b x54 (∀ (x94:Nat),q5a b x94 (decide ((x94:Int) < (↑(b.ctrs.length):Int))=false->0=Jas b))))) :
  Ja4 Tryz.prog 52 (s52 b):=by
 refine Ja7 Tryz.func52 rfl Tryz.call52 Jaw _ rfl rfl rfl rfl (Nat.le_of_ble_eq_true (by kernel_rfl)) (fun _ _ _ _ h=>h) ?_
 intro hpre C hC _ hE
 obtain ⟨P,w0,E0,av,hA,ro,df⟩:=C
 obtain ⟨rfl,rfl,rfl⟩:=hC
 refine Ja0 ?_
 refine zR [1] [0] (Ak 2 tv) ?_
 refine Ja0 ?_
 refine Ja0 ?_
 refine zC ([(19,CallSpec.eq (s45 b.rate 0 9) [true,true,true]),(27,CallSpec.eq (s45 b.rep 0 b.rate) [true,true,true])]) [1,38] [0] (Ak 5 (An (fun (y0:(!decide (3 < (↑(b.lines.length):Int)))=true)=>(An (Ak 1 tv) tv)) (An (fun (y1:(!decide (3 < (↑(b.lines.length):Int)))=true)=>(An (An (fun (y2:(!decide (3 < (↑(b.lines.length):Int)))=true)=>y1) tv) tv)) (An (fun (y3:(!decide (3 < (↑(b.lines.length):Int)))=true)=>(An (An (fun (y4:(!decide (3 < (↑(b.lines.length):Int)))=true)=>y3) tv) tv)) (An (fun (y5:(!decide (3 < (↑(b.lines.length):Int)))=true)=>(An (An (fun (y6:(!decide (3 < (↑(b.lines.length):Int)))=true)=>y5) (Ak 1 tv)) tv)) (An (An (fun (y7:decide (3 < (↑(b.lines.length):Int))=true)=>tv) (fun (y8:decide (3 < (↑(b.lines.length):Int))=false)=>(o0 hpre y8))) (Ak 1 (An (fun (y9:(!bif decide (3 < (↑(b.lines.length):Int)) then true else decide (6 < (↑(b.shown.length):Int)))=true)=>(An (Ak 1 tv) tv)) (An (fun (y10:(!bif decide (3 < (↑(b.lines.length):Int)) then true else decide (6 < (↑(b.shown.length):Int)))=true)=>(An (An (fun (y11:(!bif decide (3 < (↑(b.lines.length):Int)) then true else decide (6 < (↑(b.shown.length):Int)))=true)=>y10) tv) tv)) (An (fun (y12:(!bif decide (3 < (↑(b.lines.length):Int)) then true else decide (6 < (↑(b.shown.length):Int)))=true)=>(An (An (fun (y13:(!bif decide (3 < (↑(b.lines.length):Int)) then true else decide (6 < (↑(b.shown.length):Int)))=true)=>y12) tv) tv)) (An (fun (y14:(!bif decide (3 < (↑(b.lines.length):Int)) then true else decide (6 < (↑(b.shown.length):Int)))=true)=>(An (An (fun (y15:(!bif decide (3 < (↑(b.lines.length):Int)) then true else decide (6 < (↑(b.shown.length):Int)))=true)=>y14) (Ak 1 tv)) tv)) (An (An (fun (y16:(bif decide (3 < (↑(b.lines.length):Int)) then true else decide (6 < (↑(b.shown.length):Int)))=true)=>tv) (fun (y17:(bif decide (3 < (↑(b.lines.length):Int)) then true else decide (6 < (↑(b.shown.length):Int)))=false)=>(o1 hpre y17))) (Ak 1 (An (fun (y18:(!bif bif decide (3 < (↑(b.lines.length):Int)) then true else decide (6 < (↑(b.shown.length):Int)) then true else decide (3 < (↑(b.ctrs.length):Int)))=true)=>(An (Ak 1 tv) tv)) (An (fun (y19:(!bif bif decide (3 < (↑(b.lines.length):Int)) then true else decide (6 < (↑(b.shown.length):Int)) then true else decide (3 < (↑(b.ctrs.length):Int)))=true)=>(An (An (fun (y20:(!bif bif decide (3 < (↑(b.lines.length):Int)) then true else decide (6 < (↑(b.shown.length):Int)) then true else decide (3 < (↑(b.ctrs.length):Int)))=true)=>y19) tv) tv)) (An (fun (y21:(!bif bif decide (3 < (↑(b.lines.length):Int)) then true else decide (6 < (↑(b.shown.length):Int)) then true else decide (3 < (↑(b.ctrs.length):Int)))=true)=>(An (Ak 1 (An (fun (y22:(!bif bif decide (3 < (↑(b.lines.length):Int)) then true else decide (6 < (↑(b.shown.length):Int)) then true else decide (3 < (↑(b.ctrs.length):Int)))=true)=>y21) (Ak 2 tv))) (An (An (zr (iv b.rate)) (An (zr (iv 0)) (An (zr (iv 9)) tv))) (An (t45 b.rate (0) (9)) (Ak 2 (fun (i23:Env)=>tv)))))) (An (fun (y24:(!bif bif decide (3 < (↑(b.lines.length):Int)) then true else decide (6 < (↑(b.shown.length):Int)) then true else decide (3 < (↑(b.ctrs.length):Int)))=true)=>(An (An (fun (y25:(!bif bif decide (3 < (↑(b.lines.length):Int)) then true else decide (6 < (↑(b.shown.length):Int)) then true else decide (3 < (↑(b.ctrs.length):Int)))=true)=>y24) tv) tv)) (An (An (fun (y26:(bif bif decide (3 < (↑(b.lines.length):Int)) then true else decide (6 < (↑(b.shown.length):Int)) then true else decide (3 < (↑(b.ctrs.length):Int)))=true)=>tv) (fun (y27:(bif bif decide (3 < (↑(b.lines.length):Int)) then true else decide (6 < (↑(b.shown.length):Int)) then true else decide (3 < (↑(b.ctrs.length):Int)))=false)=>(o2 hpre y27))) (Ak 1 (An (fun (y28:(!bif bif bif decide (3 < (↑(b.lines.length):Int)) then true else decide (6 < (↑(b.shown.length):Int)) then true else decide (3 < (↑(b.ctrs.length):Int)) then true else !Ja1 b.rate 0 9)=true)=>(An (Ak 1 tv) tv)) (An (fun (y29:(!bif bif bif decide (3 < (↑(b.lines.length):Int)) then true else decide (6 < (↑(b.shown.length):Int)) then true else decide (3 < (↑(b.ctrs.length):Int)) then true else !Ja1 b.rate 0 9)=true)=>(An (An (fun (y30:(!bif bif bif decide (3 < (↑(b.lines.length):Int)) then true else decide (6 < (↑(b.shown.length):Int)) then true else decide (3 < (↑(b.ctrs.length):Int)) then true else !Ja1 b.rate 0 9)=true)=>y29) tv) tv)) (An (fun (y31:(!bif bif bif decide (3 < (↑(b.lines.length):Int)) then true else decide (6 < (↑(b.shown.length):Int)) then true else decide (3 < (↑(b.ctrs.length):Int)) then true else !Ja1 b.rate 0 9)=true)=>(An (Ak 1 tv) tv)) (An (fun (y32:(!bif bif bif decide (3 < (↑(b.lines.length):Int)) then true else decide (6 < (↑(b.shown.length):Int)) then true else decide (3 < (↑(b.ctrs.length):Int)) then true else !Ja1 b.rate 0 9)=true)=>(An (An (fun (y33:(!bif bif bif decide (3 < (↑(b.lines.length):Int)) then true else decide (6 < (↑(b.shown.length):Int)) then true else decide (3 < (↑(b.ctrs.length):Int)) then true else !Ja1 b.rate 0 9)=true)=>y32) tv) tv)) (An (fun (y34:(!bif bif bif decide (3 < (↑(b.lines.length):Int)) then true else decide (6 < (↑(b.shown.length):Int)) then true else decide (3 < (↑(b.ctrs.length):Int)) then true else !Ja1 b.rate 0 9)=true)=>(An (Ak 1 (An (fun (y35:(!bif bif bif decide (3 < (↑(b.lines.length):Int)) then true else decide (6 < (↑(b.shown.length):Int)) then true else decide (3 < (↑(b.ctrs.length):Int)) then true else !Ja1 b.rate 0 9)=true)=>y34) (Ak 1 (An (fun (y36:(!bif bif bif decide (3 < (↑(b.lines.length):Int)) then true else decide (6 < (↑(b.shown.length):Int)) then true else decide (3 < (↑(b.ctrs.length):Int)) then true else !Ja1 b.rate 0 9)=true)=>y34) tv)))) (An (An (zr (iv b.rep)) (An (zr (iv 0)) (An (zr (iv b.rate)) tv))) (An (t45 b.rep (0) b.rate) (Ak 2 (fun (i37:Env)=>tv)))))) (An (fun (y38:(!bif bif bif decide (3 < (↑(b.lines.length):Int)) then true else decide (6 < (↑(b.shown.length):Int)) then true else decide (3 < (↑(b.ctrs.length):Int)) then true else !Ja1 b.rate 0 9)=true)=>(An (An (fun (y39:(!bif bif bif decide (3 < (↑(b.lines.length):Int)) then true else decide (6 < (↑(b.shown.length):Int)) then true else decide (3 < (↑(b.ctrs.length):Int)) then true else !Ja1 b.rate 0 9)=true)=>y38) tv) tv)) (An (An (fun (y40:(bif bif bif decide (3 < (↑(b.lines.length):Int)) then true else decide (6 < (↑(b.shown.length):Int)) then true else decide (3 < (↑(b.ctrs.length):Int)) then true else !Ja1 b.rate 0 9)=true)=>tv) (fun (y41:(bif bif bif decide (3 < (↑(b.lines.length):Int)) then true else decide (6 < (↑(b.shown.length):Int)) then true else decide (3 < (↑(b.ctrs.length):Int)) then true else !Ja1 b.rate 0 9)=false)=>(o3 hpre y41))) tv)))))))))))))))))))))))))) ?_
 refine zI (bif bif bif bif decide (3 < (↑(b.lines.length):Int)) then true else decide (6 < (↑(b.shown.length):Int)) then true else decide (3 < (↑(b.ctrs.length):Int)) then true else !Ja1 b.rate 0 9 then true else !Ja1 b.rep 0 b.rate) (fun y42 => ?_) (fun y42 => ?_)
 ·refine Ja0 ?_
  refine zR [2] [] (Ak 1 tv) ?_
  refine Ja5 ?_
  exact zT [] (An (Ak 1 tv) (An (An (ci (o4 hpre y42)) (zr nilN)) (An (zr true) (An (zr true) (zr true)))))
 ·refine Ja3 ?_
  refine Ja0 ?_
  refine Ja0 ?_
  refine zR [1,40,41,42] [0] (Ak 4 tv) ?_
  refine Ja2 ?_
  refine zL (Hint.ann (h52a b) [(1,AV.ptr 0 []),(40,AV.sl 2 b.lines.length fun (i:Nat)=>Jb6 (lnB b i)),(41,iv (↑(b.lines.length):Int))] [(0,OB.cells 39 (cBk b))] 10288) (zE hE [] [(0,.same 0)] [40,41] [0] (An (An (An (zr (some (Src.same 0))) (zr nilP)) (An (An (zr (AV.sl 2 b.lines.length fun (i:Nat)=>Jb6 (lnB b i))) (zr true)) (An (An (zr (iv (↑(b.lines.length):Int))) (zr true)) (An (An (ci (o5 hpre y42)) (zr nilN)) tv)))) (An (An (An (zr (OB.cells 39 (cBk b))) (zr true)) tv) (An (zr true) (zr true))))) (o6 hpre y42) (fun (x43:Nat) hx43 => ?_)
  refine Ja0 ?_
  refine zR [1,40,41,42,43] [0] (Ak 1 tv) ?_
  refine Ja0 ?_
  refine zI (decide ((x43:Int) < (↑(b.lines.length):Int))) (fun y44 => ?_) (fun y44 => ?_)
  ·refine Ja3 ?_
   refine Ja0 ?_
   refine Ja2 ?_
   refine Ja0 ?_
   refine zR [1,40,41,42,4] [0,10312] (An (An (o7 hpre y42 x43 hx43 y44) (o8 hpre y42 x43 hx43 y44)) (Ak 3 tv)) ?_
   refine Ja0 ?_
   refine zC ([(4,CallSpec.eq (s45 (lnB b x43).lo 0 (lnB b x43).hi) [true,true,true])]) [1,40,41,42,56] [0] (Ak 4 (An (An (An (zr (iv (lnB b x43).lo)) (An (zr (iv 0)) (An (zr (iv (lnB b x43).hi)) tv))) (An (t45 (lnB b x43).lo (0) (lnB b x43).hi) (Ak 2 (fun (i45:Env)=>tv)))) (Ak 2 (An (fun (y46:(!!Ja1 (lnB b x43).lo 0 (lnB b x43).hi)=true)=>(An (Ak 1 tv) tv)) (An (fun (y47:(!!Ja1 (lnB b x43).lo 0 (lnB b x43).hi)=true)=>(An (An (fun (y48:(!!Ja1 (lnB b x43).lo 0 (lnB b x43).hi)=true)=>y47) tv) tv)) (An (fun (y49:(!!Ja1 (lnB b x43).lo 0 (lnB b x43).hi)=true)=>(An (An (fun (y50:(!!Ja1 (lnB b x43).lo 0 (lnB b x43).hi)=true)=>y49) (Ak 1 tv)) tv)) (An (An (fun (y51:(!Ja1 (lnB b x43).lo 0 (lnB b x43).hi)=true)=>tv) (fun (y52:(!Ja1 (lnB b x43).lo 0 (lnB b x43).hi)=false)=>(o9 hpre y42 x43 hx43 y44 y52))) tv))))))) ?_
   refine zI (bif !Ja1 (lnB b x43).lo 0 (lnB b x43).hi then true else decide (9 < (lnB b x43).hi)) (fun y53 => ?_) (fun y53 => ?_)
   ·refine Ja0 ?_
    refine zR [2] [] (Ak 1 tv) ?_
    refine Ja5 ?_
    exact zT [] (An (Ak 1 tv) (An (An (ci (o10 hpre y42 x43 hx43 y44 y53)) (zr nilN)) (An (zr true) (An (zr true) (zr true)))))
   ·refine Ja3 ?_
    refine zR [1,40,41,42] [0] (An (o11 hpre y42 x43 hx43 y44 y53) (Ak 1 tv)) ?_
    exact zn (zE hE [] [(0,.same 0)] [40,41] [0] (An (An (An (zr (some (Src.same 0))) (zr nilP)) (An (An (zr (AV.sl 2 b.lines.length fun (i:Nat)=>Jb6 (lnB b i))) (zr true)) (An (An (zr (iv (↑(b.lines.length):Int))) (zr true)) (An (An (ci (o12 hpre y42 x43 hx43 y44 y53)) (zr nilN)) tv)))) (An (An (An (zr (OB.cells 39 (cBk b))) (zr true)) tv) (An (zr true) (zr true))))) (o13 hpre y42 x43 hx43 y44 y53) (o14 hpre y42 x43 hx43 y44 y53)
  ·refine Jaa ?_
   refine Ja0 ?_
   refine Ja0 ?_
   refine zR [1,59,60,61] [0] (Ak 4 tv) ?_
   refine Ja2 ?_
   refine zL (Hint.ann (h52b b) [(1,AV.ptr 0 []),(59,AV.sl 3 b.shown.length fun (i:Nat)=>cShn (shB b i)),(60,iv (↑(b.shown.length):Int))] [(0,OB.cells 39 (cBk b))] 20328) (zE hE [] [(0,.same 0)] [59,60] [0] (An (An (An (zr (some (Src.same 0))) (zr nilP)) (An (An (zr (AV.sl 3 b.shown.length fun (i:Nat)=>cShn (shB b i))) (zr true)) (An (An (zr (iv (↑(b.shown.length):Int))) (zr true)) (An (An (ci (o15 hpre y42 x43 hx43 y44)) (zr nilN)) tv)))) (An (An (An (zr (OB.cells 39 (cBk b))) (zr true)) tv) (An (zr true) (zr true))))) (o16 hpre y42 x43 hx43 y44) (fun (x54:Nat) hx54 => ?_)
   refine Ja0 ?_
   refine zR [1,59,60,61,62] [0] (Ak 1 tv) ?_
   refine Ja0 ?_
   refine zI (decide ((x54:Int) < (↑(b.shown.length):Int))) (fun y55 => ?_) (fun y55 => ?_)
   ·refine Ja3 ?_
    refine Ja0 ?_
    refine Ja2 ?_
    refine Ja0 ?_
    refine zR [1,59,60,61,6,5] [0,20360] (Ak 1 (An (An (o17 hpre y42 x43 hx43 y44 x54 hx54 y55) (o18 hpre y42 x43 hx43 y44 x54 hx54 y55)) (Ak 4 tv))) ?_
    refine Ja0 ?_
    refine zC ([(6,CallSpec.eq (s45 (shB b x54).ad 0 ((↑(b.lines.length):Int) - 1)) [true,true,true]),(11,CallSpec.eq (s45 (shB b x54).day 0 13) [true,true,true]),(17,CallSpec.eq (s45 (shB b x54).ed 0 2) [true,true,true]),(26,CallSpec.eq (c52 b x54) [false,true])]) [1,59,60,61,93] [0] (Ak 5 (An (o19 hpre y42 x43 hx43 y44 x54 hx54 y55) (An (An (An (zr (iv (shB b x54).ad)) (An (zr (iv 0)) (An (zr (iv ((↑(b.lines.length):Int) - 1))) tv))) (An (t45 (shB b x54).ad (0) ((↑(b.lines.length):Int) - 1)) (Ak 2 (fun (i56:Env)=>tv)))) (Ak 2 (An (fun (y57:(!!Ja1 (shB b x54).ad 0 ((↑(b.lines.length):Int) - 1))=true)=>(An (Ak 1 tv) tv)) (An (fun (y58:(!!Ja1 (shB b x54).ad 0 ((↑(b.lines.length):Int) - 1))=true)=>(An (An (fun (y59:(!!Ja1 (shB b x54).ad 0 ((↑(b.lines.length):Int) - 1))=true)=>y58) tv) tv)) (An (fun (y60:(!!Ja1 (shB b x54).ad 0 ((↑(b.lines.length):Int) - 1))=true)=>(An (Ak 1 (An (fun (y61:(!!Ja1 (shB b x54).ad 0 ((↑(b.lines.length):Int) - 1))=true)=>y60) (Ak 2 tv))) (An (An (zr (iv (shB b x54).day)) (An (zr (iv 0)) (An (zr (iv 13)) tv))) (An (t45 (shB b x54).day (0) (13)) (Ak 2 (fun (i62:Env)=>tv)))))) (An (fun (y63:(!!Ja1 (shB b x54).ad 0 ((↑(b.lines.length):Int) - 1))=true)=>(An (An (fun (y64:(!!Ja1 (shB b x54).ad 0 ((↑(b.lines.length):Int) - 1))=true)=>y63) tv) tv)) (An (An (fun (y65:(!Ja1 (shB b x54).ad 0 ((↑(b.lines.length):Int) - 1))=true)=>tv) (fun (y66:(!Ja1 (shB b x54).ad 0 ((↑(b.lines.length):Int) - 1))=false)=>(o20 hpre y42 x43 hx43 y44 x54 hx54 y55 y66))) (Ak 1 (An (fun (y67:(!bif !Ja1 (shB b x54).ad 0 ((↑(b.lines.length):Int) - 1) then true else !Ja1 (shB b x54).day 0 13)=true)=>(An (Ak 1 tv) tv)) (An (fun (y68:(!bif !Ja1 (shB b x54).ad 0 ((↑(b.lines.length):Int) - 1) then true else !Ja1 (shB b x54).day 0 13)=true)=>(An (An (fun (y69:(!bif !Ja1 (shB b x54).ad 0 ((↑(b.lines.length):Int) - 1) then true else !Ja1 (shB b x54).day 0 13)=true)=>y68) tv) tv)) (An (fun (y70:(!bif !Ja1 (shB b x54).ad 0 ((↑(b.lines.length):Int) - 1) then true else !Ja1 (shB b x54).day 0 13)=true)=>(An (Ak 1 (An (fun (y71:(!bif !Ja1 (shB b x54).ad 0 ((↑(b.lines.length):Int) - 1) then true else !Ja1 (shB b x54).day 0 13)=true)=>y70) (Ak 2 tv))) (An (An (zr (iv (shB b x54).ed)) (An (zr (iv 0)) (An (zr (iv 2)) tv))) (An (t45 (shB b x54).ed (0) (2)) (Ak 2 (fun (i72:Env)=>tv)))))) (An (fun (y73:(!bif !Ja1 (shB b x54).ad 0 ((↑(b.lines.length):Int) - 1) then true else !Ja1 (shB b x54).day 0 13)=true)=>(An (An (fun (y74:(!bif !Ja1 (shB b x54).ad 0 ((↑(b.lines.length):Int) - 1) then true else !Ja1 (shB b x54).day 0 13)=true)=>y73) tv) tv)) (An (An (fun (y75:(bif !Ja1 (shB b x54).ad 0 ((↑(b.lines.length):Int) - 1) then true else !Ja1 (shB b x54).day 0 13)=true)=>tv) (fun (y76:(bif !Ja1 (shB b x54).ad 0 ((↑(b.lines.length):Int) - 1) then true else !Ja1 (shB b x54).day 0 13)=false)=>(o21 hpre y42 x43 hx43 y44 x54 hx54 y55 y76))) (Ak 1 (An (fun (y77:(!bif bif !Ja1 (shB b x54).ad 0 ((↑(b.lines.length):Int) - 1) then true else !Ja1 (shB b x54).day 0 13 then true else !Ja1 (shB b x54).ed 0 2)=true)=>(An (Ak 1 tv) tv)) (An (fun (y78:(!bif bif !Ja1 (shB b x54).ad 0 ((↑(b.lines.length):Int) - 1) then true else !Ja1 (shB b x54).day 0 13 then true else !Ja1 (shB b x54).ed 0 2)=true)=>(An (An (fun (y79:(!bif bif !Ja1 (shB b x54).ad 0 ((↑(b.lines.length):Int) - 1) then true else !Ja1 (shB b x54).day 0 13 then true else !Ja1 (shB b x54).ed 0 2)=true)=>y78) tv) tv)) (An (fun (y80:(!bif bif !Ja1 (shB b x54).ad 0 ((↑(b.lines.length):Int) - 1) then true else !Ja1 (shB b x54).day 0 13 then true else !Ja1 (shB b x54).ed 0 2)=true)=>(An (Ak 1 tv) tv)) (An (fun (y81:(!bif bif !Ja1 (shB b x54).ad 0 ((↑(b.lines.length):Int) - 1) then true else !Ja1 (shB b x54).day 0 13 then true else !Ja1 (shB b x54).ed 0 2)=true)=>(An (An (fun (y82:(!bif bif !Ja1 (shB b x54).ad 0 ((↑(b.lines.length):Int) - 1) then true else !Ja1 (shB b x54).day 0 13 then true else !Ja1 (shB b x54).ed 0 2)=true)=>y81) (An (fun (y83:(!bif bif !Ja1 (shB b x54).ad 0 ((↑(b.lines.length):Int) - 1) then true else !Ja1 (shB b x54).day 0 13 then true else !Ja1 (shB b x54).ed 0 2)=true)=>y81) tv)) (An (o22 hpre y42 x43 hx43 y44 x54 hx54 y55 y81) (o23 hpre y42 x43 hx43 y44 x54 hx54 y55 y81)))) (An (fun (y84:(!bif bif !Ja1 (shB b x54).ad 0 ((↑(b.lines.length):Int) - 1) then true else !Ja1 (shB b x54).day 0 13 then true else !Ja1 (shB b x54).ed 0 2)=true)=>(An (Ak 1 tv) tv)) (An (fun (y85:(!bif bif !Ja1 (shB b x54).ad 0 ((↑(b.lines.length):Int) - 1) then true else !Ja1 (shB b x54).day 0 13 then true else !Ja1 (shB b x54).ed 0 2)=true)=>(An (Ak 1 (An (fun (y86:(!bif bif !Ja1 (shB b x54).ad 0 ((↑(b.lines.length):Int) - 1) then true else !Ja1 (shB b x54).day 0 13 then true else !Ja1 (shB b x54).ed 0 2)=true)=>y85) (An (fun (y87:(!bif bif !Ja1 (shB b x54).ad 0 ((↑(b.lines.length):Int) - 1) then true else !Ja1 (shB b x54).day 0 13 then true else !Ja1 (shB b x54).ed 0 2)=true)=>y85) tv))) (An (An (An (zr 3) (An (o24 hpre y42 x43 hx43 y44 x54 hx54 y55 y85) (fun (i88:Nat)=>(fun (y89:i88 < (List.take x54 b.shown).length)=>(o25 hpre y42 x43 hx43 y44 x54 hx54 y55 y85 i88 y89))))) (An (zr (AV.agg (cShn (shB b x54)))) tv)) (An (t71 (List.take x54 b.shown) (shB b x54)) (An (o26 hpre y42 x43 hx43 y44 x54 hx54 y55 y85) (Ak 1 (fun (i90:Env)=>tv))))))) (An (An (fun (y91:(bif bif !Ja1 (shB b x54).ad 0 ((↑(b.lines.length):Int) - 1) then true else !Ja1 (shB b x54).day 0 13 then true else !Ja1 (shB b x54).ed 0 2)=true)=>tv) (fun (y92:(bif bif !Ja1 (shB b x54).ad 0 ((↑(b.lines.length):Int) - 1) then true else !Ja1 (shB b x54).day 0 13 then true else !Ja1 (shB b x54).ed 0 2)=false)=>(o27 hpre y42 x43 hx43 y44 x54 hx54 y55 y92))) tv))))))))))))))))))))))) ?_
    refine zI (bif bif bif !Ja1 (shB b x54).ad 0 ((↑(b.lines.length):Int) - 1) then true else !Ja1 (shB b x54).day 0 13 then true else !Ja1 (shB b x54).ed 0 2 then true else hasG (List.take x54 b.shown) (shB b x54)) (fun y93 => ?_) (fun y93 => ?_)
    ·refine Ja0 ?_
     refine zR [2] [] (Ak 1 tv) ?_
     refine Ja5 ?_
     exact zT [] (An (Ak 1 tv) (An (An (ci (o28 hpre y42 x43 hx43 y44 x54 hx54 y55 y93)) (zr nilN)) (An (zr true) (An (zr true) (zr true)))))
    ·refine Ja3 ?_
     refine zR [1,59,60,61] [0] (An (o29 hpre y42 x43 hx43 y44 x54 hx54 y55 y93) (Ak 1 tv)) ?_
     exact zn (zE hE [] [(0,.same 0)] [59,60] [0] (An (An (An (zr (some (Src.same 0))) (zr nilP)) (An (An (zr (AV.sl 3 b.shown.length fun (i:Nat)=>cShn (shB b i))) (zr true)) (An (An (zr (iv (↑(b.shown.length):Int))) (zr true)) (An (An (ci (o30 hpre y42 x43 hx43 y44 x54 hx54 y55 y93)) (zr nilN)) tv)))) (An (An (An (zr (OB.cells 39 (cBk b))) (zr true)) tv) (An (zr true) (zr true))))) (o31 hpre y42 x43 hx43 y44 x54 hx54 y55 y93) (o32 hpre y42 x43 hx43 y44 x54 hx54 y55 y93)
   ·refine Jaa ?_
    refine Ja0 ?_
    refine Ja0 ?_
    refine zR [96,97,98] [] (Ak 4 tv) ?_
    refine Ja2 ?_
    refine zL (Hint.ann (h52c b) [(96,AV.sl 4 b.ctrs.length fun (i:Nat)=>cCtr (ctB b i)),(97,iv (↑(b.ctrs.length):Int))] [] 30368) (zE hE [] [] [96,97] [] (An (An (An (zr (AV.sl 4 b.ctrs.length fun (i:Nat)=>cCtr (ctB b i))) (zr true)) (An (An (zr (iv (↑(b.ctrs.length):Int))) (zr true)) (An (An (ci (o33 hpre y42 x43 hx43 y44 x54 hx54 y55)) (zr nilN)) tv))) (Ak 1 (An (zr true) (zr true))))) (o34 hpre y42 x43 hx43 y44 x54 hx54 y55) (fun (x94:Nat) hx94 => ?_)
    refine Ja0 ?_
    refine zR [96,97,98,99] [] (Ak 1 tv) ?_
    refine Ja0 ?_
    refine zI (decide ((x94:Int) < (↑(b.ctrs.length):Int))) (fun y95 => ?_) (fun y95 => ?_)
    ·refine Ja3 ?_
     refine Ja0 ?_
     refine Ja2 ?_
     refine Ja0 ?_
     refine zR [96,97,98,8] [30392] (An (An (o35 hpre y42 x43 hx43 y44 x54 hx54 y55 x94 hx94 y95) (o36 hpre y42 x43 hx43 y44 x54 hx54 y55 x94 hx94 y95)) (Ak 3 tv)) ?_
     refine Ja0 ?_
     refine zC ([(2,CallSpec.eq (s45 (ctB b x94).frm 0 13) [true,true,true]),(7,CallSpec.eq (s45 (ctB b x94).days 1 7) [true,true,true]),(13,CallSpec.eq (s45 (ctB b x94).room 0 99) [true,true,true]),(19,CallSpec.eq (s45 (ctB b x94).pence 0 99) [true,true,true])]) [96,97,98,123] [] (Ak 2 (An (An (An (zr (iv (ctB b x94).frm)) (An (zr (iv 0)) (An (zr (iv 13)) tv))) (An (t45 (ctB b x94).frm (0) (13)) (Ak 2 (fun (i96:Env)=>tv)))) (Ak 2 (An (fun (y97:(!!Ja1 (ctB b x94).frm 0 13)=true)=>(An (Ak 1 tv) tv)) (An (fun (y98:(!!Ja1 (ctB b x94).frm 0 13)=true)=>(An (An (fun (y99:(!!Ja1 (ctB b x94).frm 0 13)=true)=>y98) tv) tv)) (An (fun (y100:(!!Ja1 (ctB b x94).frm 0 13)=true)=>(An (Ak 1 (An (fun (y101:(!!Ja1 (ctB b x94).frm 0 13)=true)=>y100) (Ak 2 tv))) (An (An (zr (iv (ctB b x94).days)) (An (zr (iv 1)) (An (zr (iv 7)) tv))) (An (t45 (ctB b x94).days (1) (7)) (Ak 2 (fun (i102:Env)=>tv)))))) (An (fun (y103:(!!Ja1 (ctB b x94).frm 0 13)=true)=>(An (An (fun (y104:(!!Ja1 (ctB b x94).frm 0 13)=true)=>y103) tv) tv)) (An (An (fun (y105:(!Ja1 (ctB b x94).frm 0 13)=true)=>tv) (fun (y106:(!Ja1 (ctB b x94).frm 0 13)=false)=>(o37 hpre y42 x43 hx43 y44 x54 hx54 y55 x94 hx94 y95 y106))) (Ak 1 (An (fun (y107:(!bif !Ja1 (ctB b x94).frm 0 13 then true else !Ja1 (ctB b x94).days 1 7)=true)=>(An (Ak 1 tv) tv)) (An (fun (y108:(!bif !Ja1 (ctB b x94).frm 0 13 then true else !Ja1 (ctB b x94).days 1 7)=true)=>(An (An (fun (y109:(!bif !Ja1 (ctB b x94).frm 0 13 then true else !Ja1 (ctB b x94).days 1 7)=true)=>y108) tv) tv)) (An (fun (y110:(!bif !Ja1 (ctB b x94).frm 0 13 then true else !Ja1 (ctB b x94).days 1 7)=true)=>(An (Ak 1 (An (fun (y111:(!bif !Ja1 (ctB b x94).frm 0 13 then true else !Ja1 (ctB b x94).days 1 7)=true)=>y110) (Ak 2 tv))) (An (An (zr (iv (ctB b x94).room)) (An (zr (iv 0)) (An (zr (iv 99)) tv))) (An (t45 (ctB b x94).room (0) (99)) (Ak 2 (fun (i112:Env)=>tv)))))) (An (fun (y113:(!bif !Ja1 (ctB b x94).frm 0 13 then true else !Ja1 (ctB b x94).days 1 7)=true)=>(An (An (fun (y114:(!bif !Ja1 (ctB b x94).frm 0 13 then true else !Ja1 (ctB b x94).days 1 7)=true)=>y113) tv) tv)) (An (An (fun (y115:(bif !Ja1 (ctB b x94).frm 0 13 then true else !Ja1 (ctB b x94).days 1 7)=true)=>tv) (fun (y116:(bif !Ja1 (ctB b x94).frm 0 13 then true else !Ja1 (ctB b x94).days 1 7)=false)=>(o38 hpre y42 x43 hx43 y44 x54 hx54 y55 x94 hx94 y95 y116))) (Ak 1 (An (fun (y117:(!bif bif !Ja1 (ctB b x94).frm 0 13 then true else !Ja1 (ctB b x94).days 1 7 then true else !Ja1 (ctB b x94).room 0 99)=true)=>(An (Ak 1 tv) tv)) (An (fun (y118:(!bif bif !Ja1 (ctB b x94).frm 0 13 then true else !Ja1 (ctB b x94).days 1 7 then true else !Ja1 (ctB b x94).room 0 99)=true)=>(An (An (fun (y119:(!bif bif !Ja1 (ctB b x94).frm 0 13 then true else !Ja1 (ctB b x94).days 1 7 then true else !Ja1 (ctB b x94).room 0 99)=true)=>y118) tv) tv)) (An (fun (y120:(!bif bif !Ja1 (ctB b x94).frm 0 13 then true else !Ja1 (ctB b x94).days 1 7 then true else !Ja1 (ctB b x94).room 0 99)=true)=>(An (Ak 1 (An (fun (y121:(!bif bif !Ja1 (ctB b x94).frm 0 13 then true else !Ja1 (ctB b x94).days 1 7 then true else !Ja1 (ctB b x94).room 0 99)=true)=>y120) (Ak 2 tv))) (An (An (zr (iv (ctB b x94).pence)) (An (zr (iv 0)) (An (zr (iv 99)) tv))) (An (t45 (ctB b x94).pence (0) (99)) (Ak 2 (fun (i122:Env)=>tv)))))) (An (fun (y123:(!bif bif !Ja1 (ctB b x94).frm 0 13 then true else !Ja1 (ctB b x94).days 1 7 then true else !Ja1 (ctB b x94).room 0 99)=true)=>(An (An (fun (y124:(!bif bif !Ja1 (ctB b x94).frm 0 13 then true else !Ja1 (ctB b x94).days 1 7 then true else !Ja1 (ctB b x94).room 0 99)=true)=>y123) tv) tv)) (An (An (fun (y125:(bif bif !Ja1 (ctB b x94).frm 0 13 then true else !Ja1 (ctB b x94).days 1 7 then true else !Ja1 (ctB b x94).room 0 99)=true)=>tv) (fun (y126:(bif bif !Ja1 (ctB b x94).frm 0 13 then true else !Ja1 (ctB b x94).days 1 7 then true else !Ja1 (ctB b x94).room 0 99)=false)=>(o39 hpre y42 x43 hx43 y44 x54 hx54 y55 x94 hx94 y95 y126))) tv)))))))))))))))))))) ?_
     refine zI (bif bif bif !Ja1 (ctB b x94).frm 0 13 then true else !Ja1 (ctB b x94).days 1 7 then true else !Ja1 (ctB b x94).room 0 99 then true else !Ja1 (ctB b x94).pence 0 99) (fun y127 => ?_) (fun y127 => ?_)
     ·refine Ja0 ?_
      refine zR [2] [] (Ak 1 tv) ?_
      refine Ja5 ?_
      exact zT [] (An (Ak 1 tv) (An (An (ci (o40 hpre y42 x43 hx43 y44 x54 hx54 y55 x94 hx94 y95 y127)) (zr nilN)) (An (zr true) (An (zr true) (zr true)))))
     ·refine Ja3 ?_
      refine zR [96,97,98] [] (An (o41 hpre y42 x43 hx43 y44 x54 hx54 y55 x94 hx94 y95 y127) (Ak 1 tv)) ?_
      exact zn (zE hE [] [] [96,97] [] (An (An (An (zr (AV.sl 4 b.ctrs.length fun (i:Nat)=>cCtr (ctB b i))) (zr true)) (An (An (zr (iv (↑(b.ctrs.length):Int))) (zr true)) (An (An (ci (o42 hpre y42 x43 hx43 y44 x54 hx54 y55 x94 hx94 y95 y127)) (zr nilN)) tv))) (Ak 1 (An (zr true) (zr true))))) (o43 hpre y42 x43 hx43 y44 x54 hx54 y55 x94 hx94 y95 y127) (o44 hpre y42 x43 hx43 y44 x54 hx54 y55 x94 hx94 y95 y127)
    ·refine Jaa ?_
     refine Ja0 ?_
     refine zR [2] [] (Ak 1 tv) ?_
     refine Ja5 ?_
     exact zT [] (An (Ak 1 tv) (An (An (ci (o45 hpre y42 x43 hx43 y44 x54 hx54 y55 x94 hx94 y95)) (zr nilN)) (An (zr true) (An (zr true) (zr true)))))
theorem t52 (b:Book):Ja4 Tryz.prog 52 (s52 b):=by
 apply w52
 all_goals (try delta q4z q50 q51 q52 q53 q54 q55 q56 q57 q58 q59 q5a q5b q5c)
 case o4=>intro hp h; rw [JoB] at h; exact Jkc (by simpa using h)
 case o10=>intro hp h x hx hl h2; rw [ln8] at h2; simp only [decide_eq_true_eq] at hl; exact Jpb (x:=x) (by omega) (by simpa using h2)
 case o13=>intro hp h x hx hl h2; rw [ln8] at h2; simp only [decide_eq_true_eq] at hl; exact ⟨by omega,Jad hx.2 (by simpa using h2)⟩
 case o24=>intro hp h x hx hl y hy hl2 h2; rw [List.length_take]; omega
 case o25=>intro hp h x hx hl y hy hl2 h2 i hi; rw [List.length_take] at hi; rw [Jip _ _ (by omega)]; rfl
 case o26=>intro hp h x hx hl y hy hl2 h2; rw [List.length_take]; simp only [JaZ] at hp; omega
 case o28=>intro hp h x hx hl y hy hl2 h2; rw [sh8 b y hy.1] at h2; simp only [decide_eq_true_eq] at hl2; exact JmX (x:=y) (by omega) (by simpa using h2)
 case o31=>intro hp h x hx hl y hy hl2 h2; rw [sh8 b y hy.1] at h2; simp only [decide_eq_true_eq] at hl2; exact ⟨by omega,Jad hy.2 (by simpa using h2)⟩
 case o40=>intro hp h x hx hl y hy hl2 z hz hl3 h2; rw [ct8] at h2; simp only [decide_eq_true_eq] at hl3; exact Jpc (x:=z) (by omega) (by simpa using h2)
 case o43=>intro hp h x hx hl y hy hl2 z hz hl3 h2; rw [ct8] at h2; simp only [decide_eq_true_eq] at hl3; exact ⟨by omega,Jad hz.2 (by simpa using h2)⟩
 case o45 =>
  intro hp h x hx hl y hy hl2 z hz hl3
  rw [JoB] at h
  simp only [decide_eq_false_iff_not] at hl hl2 hl3
  exact Jpd (by simpa using h) (fun j hj=>hx.2 j (by omega)) (fun j hj=>hy.2 j (by omega)) (fun j hj=>hz.2 j (by omega))
 all_goals (simp only [JaZ,inI] at *)
 all_goals (try ((repeat intro _) <;> (try simp only [Bool.cond_true_left,Bool.cond_false_right,Bool.not_not,Bool.not_eq_true',Bool.not_eq_false',Bool.or_eq_true,Bool.or_eq_false_iff,Bool.and_eq_true,decide_eq_true_eq,decide_eq_false_iff_not,inI,big] at *) <;> first | (exact rfl) | omega | (exact ⟨Nat.zero_le _,fun j hj=>absurd hj (Nat.not_lt_zero j)⟩) | (simp_all; done) | (simp_all; omega)))
abbrev q5d (b:Book) (Pq:Prop):Prop:=Jin b->Pq
abbrev q5e (b:Book) (Pq:Prop):Prop:=q5d b ((bif bif bif bif decide (3 < (↑(b.lines.length):Int)) then true else decide (6 < (↑(b.shown.length):Int)) then true else decide (3 < (↑(b.ctrs.length):Int)) then true else !Ja1 b.rate 0 9 then true else !Ja1 b.rep 0 b.rate)=false->Pq)
abbrev q5f (b:Book) (x43:Nat) (Pq:Prop):Prop:=(x43<=b.lines.length /\ ∀ (j:Nat),j < x43->okLn (lnB b j)=true)->Pq
abbrev q5g (b:Book) (x43:Nat) (Pq:Prop):Prop:=q5f b x43 (decide ((x43:Int) < (↑(b.lines.length):Int))=true->Pq)
abbrev q5h (b:Book) (x43:Nat) (Pq:Prop):Prop:=q5f b x43 (decide ((x43:Int) < (↑(b.lines.length):Int))=false->Pq)
abbrev q5i (b:Book) (x47:Nat) (Pq:Prop):Prop:=(x47<=b.shown.length /\ ∀ (j:Nat),j < x47->JcS b j=true)->Pq
abbrev q5j (b:Book) (x47:Nat) (Pq:Prop):Prop:=q5i b x47 (decide ((x47:Int) < (↑(b.shown.length):Int))=true->Pq)
abbrev q5k (b:Book) (x47:Nat) (Pq:Prop):Prop:=q5j b x47 ((bif bif !isAd b (shB b x47).ad then true else !Ja1 (shB b x47).day 0 13 then true else !Ja1 (shB b x47).ed 0 2)=false->Pq)
abbrev q5l (b:Book) (x47:Nat) (x71:Nat) (Pq:Prop):Prop:=(x71<=x47 /\ ∀ (j:Nat),j < x71->decide (shB b j=shB b x47)=false)->Pq
abbrev q5m (b:Book) (x47:Nat) (x71:Nat) (Pq:Prop):Prop:=q5l b x47 x71 (decide ((x71:Int) < (x47:Int))=true->Pq)
abbrev q5n (b:Book) (x47:Nat) (x71:Nat) (Pq:Prop):Prop:=q5m b x47 x71 ((decide ((shB b x71).ad=(shB b x47).ad) && (decide ((shB b x71).day=(shB b x47).day) && (decide ((shB b x71).ed=(shB b x47).ed) && true)))=false->Pq)
abbrev q5o (b:Book) (x47:Nat) (Pq:Prop):Prop:=q5i b x47 (decide ((x47:Int) < (↑(b.shown.length):Int))=false->Pq)
abbrev q5p (b:Book) (x74:Nat) (Pq:Prop):Prop:=(x74<=b.ctrs.length /\ ∀ (j:Nat),j < x74->JdI (ctB b j)=true)->Pq
abbrev q5q (b:Book) (x74:Nat) (Pq:Prop):Prop:=q5p b x74 (decide ((x74:Int) < (↑(b.ctrs.length):Int))=true->Pq)
abbrev q5r (b:Book) (x74:Nat) (Pq:Prop):Prop:=q5q b x74 ((bif bif bif !Ja1 (ctB b x74).frm 0 13 then true else !Ja1 (ctB b x74).days 1 7 then true else !Ja1 (ctB b x74).room 0 99 then true else !Ja1 (ctB b x74).pence 0 99)=false->Pq)
theorem w9 (b:Book)
 (o0:q5d b (decide (3 < (↑(b.lines.length):Int))=false->(!decide (3 < (↑(b.lines.length):Int)))=true))
 (o1:q5d b ((bif decide (3 < (↑(b.lines.length):Int)) then true else decide (6 < (↑(b.shown.length):Int)))=false->(!bif decide (3 < (↑(b.lines.length):Int)) then true else decide (6 < (↑(b.shown.length):Int)))=true))
 (o2:q5d b ((bif bif decide (3 < (↑(b.lines.length):Int)) then true else decide (6 < (↑(b.shown.length):Int)) then true else decide (3 < (↑(b.ctrs.length):Int)))=false->(!bif bif decide (3 < (↑(b.lines.length):Int)) then true else decide (6 < (↑(b.shown.length):Int)) then true else decide (3 < (↑(b.ctrs.length):Int)))=true))
 (o3:q5d b ((bif bif bif decide (3 < (↑(b.lines.length):Int)) then true else decide (6 < (↑(b.shown.length):Int)) then true else decide (3 < (↑(b.ctrs.length):Int)) then true else !Ja1 b.rate 0 9)=false->(!bif bif bif decide (3 < (↑(b.lines.length):Int)) then true else decide (6 < (↑(b.shown.length):Int)) then true else decide (3 < (↑(b.ctrs.length):Int)) then true else !Ja1 b.rate 0 9)=true))
 (o4:q5d b ((bif bif bif bif decide (3 < (↑(b.lines.length):Int)) then true else decide (6 < (↑(b.shown.length):Int)) then true else decide (3 < (↑(b.ctrs.length):Int)) then true else !Ja1 b.rate 0 9 then true else !Ja1 b.rep 0 b.rate)=true->80=Jas b))
 (o5:q5e b (0=(↑0:Int)))
 (o6:q5e b (0<=b.lines.length /\ ∀ (j:Nat),j < 0->okLn (lnB b j)=true))
 (o7:q5e b (∀ (x43:Nat),q5g b x43 (0<=(x43:Int))))
 (o8:q5e b (∀ (x43:Nat),q5g b x43 ((x43:Int) < (↑(b.lines.length):Int))))
 (o9:q5e b (∀ (x43:Nat),q5g b x43 ((!Jay (lnB b x43) 9)=true->80=Jas b)))
 (o10:q5e b (∀ (x43:Nat),q5g b x43 ((!Jay (lnB b x43) 9)=false->inI ((x43:Int) + 1))))
 (o11:q5e b (∀ (x43:Nat),q5g b x43 ((!Jay (lnB b x43) 9)=false->(x43:Int) + 1=(↑(x43 + 1):Int))))
 (o12:q5e b (∀ (x43:Nat),q5g b x43 ((!Jay (lnB b x43) 9)=false->x43 + 1<=b.lines.length /\ ∀ (j:Nat),j < x43 + 1->okLn (lnB b j)=true)))
 (o13:q5e b (∀ (x43:Nat),q5g b x43 ((!Jay (lnB b x43) 9)=false->b.lines.length - (x43 + 1) < b.lines.length - x43)))
 (o14:q5e b (∀ (x43:Nat),q5h b x43 (0=(↑0:Int))))
 (o15:q5e b (∀ (x43:Nat),q5h b x43 (0<=b.shown.length /\ ∀ (j:Nat),j < 0->JcS b j=true)))
 (o16:q5e b (∀ (x43:Nat),q5h b x43 (∀ (x47:Nat),q5j b x47 (0<=(x47:Int)))))
 (o17:q5e b (∀ (x43:Nat),q5h b x43 (∀ (x47:Nat),q5j b x47 ((x47:Int) < (↑(b.shown.length):Int)))))
 (o18:q5e b (∀ (x43:Nat),q5h b x43 (∀ (x47:Nat),q5j b x47 ((!isAd b (shB b x47).ad)=false->(!!isAd b (shB b x47).ad)=true))))
 (o19:q5e b (∀ (x43:Nat),q5h b x43 (∀ (x47:Nat),q5j b x47 ((bif !isAd b (shB b x47).ad then true else !Ja1 (shB b x47).day 0 13)=false->(!bif !isAd b (shB b x47).ad then true else !Ja1 (shB b x47).day 0 13)=true))))
 (o20:q5e b (∀ (x43:Nat),q5h b x43 (∀ (x47:Nat),q5j b x47 ((bif bif !isAd b (shB b x47).ad then true else !Ja1 (shB b x47).day 0 13 then true else !Ja1 (shB b x47).ed 0 2)=true->80=Jas b))))
 (o21:q5e b (∀ (x43:Nat),q5h b x43 (∀ (x47:Nat),q5k b x47 (0=(↑0:Int)))))
 (o22:q5e b (∀ (x43:Nat),q5h b x43 (∀ (x47:Nat),q5k b x47 (0<=x47 /\ ∀ (j:Nat),j < 0->decide (shB b j=shB b x47)=false))))
 (o23:q5e b (∀ (x43:Nat),q5h b x43 (∀ (x47:Nat),q5k b x47 (∀ (x71:Nat),q5m b x47 x71 (0<=(x71:Int))))))
 (o24:q5e b (∀ (x43:Nat),q5h b x43 (∀ (x47:Nat),q5k b x47 (∀ (x71:Nat),q5m b x47 x71 ((x71:Int) < (↑(b.shown.length):Int))))))
 (o25:q5e b (∀ (x43:Nat),q5h b x43 (∀ (x47:Nat),q5k b x47 (∀ (x71:Nat),q5m b x47 x71 (0<=(x47:Int))))))
 (o26:q5e b (∀ (x43:Nat),q5h b x43 (∀ (x47:Nat),q5k b x47 (∀ (x71:Nat),q5m b x47 x71 ((x47:Int) < (↑(b.shown.length):Int))))))
 (o27:q5e b (∀ (x43:Nat),q5h b x43 (∀ (x47:Nat),q5k b x47 (∀ (x71:Nat),q5m b x47 x71 ((decide ((shB b x71).ad=(shB b x47).ad) && (decide ((shB b x71).day=(shB b x47).day) && (decide ((shB b x71).ed=(shB b x47).ed) && true)))=true->80=Jas b)))))
 (o28:q5e b (∀ (x43:Nat),q5h b x43 (∀ (x47:Nat),q5k b x47 (∀ (x71:Nat),q5n b x47 x71 (inI ((x71:Int) + 1))))))
 (o29:q5e b (∀ (x43:Nat),q5h b x43 (∀ (x47:Nat),q5k b x47 (∀ (x71:Nat),q5n b x47 x71 ((x71:Int) + 1=(↑(x71 + 1):Int))))))
 (o30:q5e b (∀ (x43:Nat),q5h b x43 (∀ (x47:Nat),q5k b x47 (∀ (x71:Nat),q5n b x47 x71 (x71 + 1<=x47 /\ ∀ (j:Nat),j < x71 + 1->decide (shB b j=shB b x47)=false)))))
 (o31:q5e b (∀ (x43:Nat),q5h b x43 (∀ (x47:Nat),q5k b x47 (∀ (x71:Nat),q5n b x47 x71 (x47 - (x71 + 1) < x47 - x71)))))
 (o32:q5e b (∀ (x43:Nat),q5h b x43 (∀ (x47:Nat),q5k b x47 (∀ (x71:Nat),q5l b x47 x71 (decide ((x71:Int) < (x47:Int))=false->inI ((x47:Int) + 1))))))
 (o33:q5e b (∀ (x43:Nat),q5h b x43 (∀ (x47:Nat),q5k b x47 (∀ (x71:Nat),q5l b x47 x71 (decide ((x71:Int) < (x47:Int))=false->(x47:Int) + 1=(↑(x47 + 1):Int))))))
 (o34:q5e b (∀ (x43:Nat),q5h b x43 (∀ (x47:Nat),q5k b x47 (∀ (x71:Nat),q5l b x47 x71 (decide ((x71:Int) < (x47:Int))=false->x47 + 1<=b.shown.length /\ ∀ (j:Nat),j < x47 + 1->JcS b j=true)))))
 (o35:q5e b (∀ (x43:Nat),q5h b x43 (∀ (x47:Nat),q5k b x47 (∀ (x71:Nat),q5l b x47 x71 (decide ((x71:Int) < (x47:Int))=false->b.shown.length - (x47 + 1) < b.shown.length - x47)))))
 (o36:q5e b (∀ (x43:Nat),q5h b x43 (∀ (x47:Nat),q5o b x47 (0=(↑0:Int)))))
 (o37:q5e b (∀ (x43:Nat),q5h b x43 (∀ (x47:Nat),q5o b x47 (0<=b.ctrs.length /\ ∀ (j:Nat),j < 0->JdI (ctB b j)=true))))
 (o38:q5e b (∀ (x43:Nat),q5h b x43 (∀ (x47:Nat),q5o b x47 (∀ (x74:Nat),q5q b x74 (0<=(x74:Int))))))
 (o39:q5e b (∀ (x43:Nat),q5h b x43 (∀ (x47:Nat),q5o b x47 (∀ (x74:Nat),q5q b x74 ((x74:Int) < (↑(b.ctrs.length):Int))))))
 (o40:q5e b (∀ (x43:Nat),q5h b x43 (∀ (x47:Nat),q5o b x47 (∀ (x74:Nat),q5q b x74 ((!Ja1 (ctB b x74).frm 0 13)=false->(!!Ja1 (ctB b x74).frm 0 13)=true)))))
 (o41:q5e b (∀ (x43:Nat),q5h b x43 (∀ (x47:Nat),q5o b x47 (∀ (x74:Nat),q5q b x74 ((bif !Ja1 (ctB b x74).frm 0 13 then true else !Ja1 (ctB b x74).days 1 7)=false->(!bif !Ja1 (ctB b x74).frm 0 13 then true else !Ja1 (ctB b x74).days 1 7)=true)))))
 (o42:q5e b (∀ (x43:Nat),q5h b x43 (∀ (x47:Nat),q5o b x47 (∀ (x74:Nat),q5q b x74 ((bif bif !Ja1 (ctB b x74).frm 0 13 then true else !Ja1 (ctB b x74).days 1 7 then true else !Ja1 (ctB b x74).room 0 99)=false->(!bif bif !Ja1 (ctB b x74).frm 0 13 then true else !Ja1 (ctB b x74).days 1 7 then true else !Ja1 (ctB b x74).room 0 99)=true)))))
 (o43:q5e b (∀ (x43:Nat),q5h b x43 (∀ (x47:Nat),q5o b x47 (∀ (x74:Nat),q5q b x74 ((bif bif bif !Ja1 (ctB b x74).frm 0 13 then true else !Ja1 (ctB b x74).days 1 7 then true else !Ja1 (ctB b x74).room 0 99 then true else !Ja1 (ctB b x74).pence 0 99)=true->80=Jas b)))))
 (o44:q5e b (∀ (x43:Nat),q5h b x43 (∀ (x47:Nat),q5o b x47 (∀ (x74:Nat),q5r b x74 (inI ((x74:Int) + 1))))))
 (o45:q5e b (∀ (x43:Nat),q5h b x43 (∀ (x47:Nat),q5o b x47 (∀ (x74:Nat),q5r b x74 ((x74:Int) + 1=(↑(x74 + 1):Int))))))
 (o46:q5e b (∀ (x43:Nat),q5h b x43 (∀ (x47:Nat),q5o b x47 (∀ (x74:Nat),q5r b x74 (x74 + 1<=b.ctrs.length /\ ∀ (j:Nat),j < x74 + 1->JdI (ctB b j)=true)))))
 (o47:q5e b (∀ (x43:Nat),q5h b x43 (∀ (x47:Nat),q5o b x47 (∀ (x74:Nat),q5r b x74 (b.ctrs.length - (x74 + 1) < b.ctrs.length - x74)))))
 (o48:q5e b (∀ (x43:Nat),q5h b x43 (∀ (x47:Nat),q5o b x47 (∀ (x74:Nat),q5p b x74 (decide ((x74:Int) < (↑(b.ctrs.length):Int))=false->0=Jas b))))) :
  Ja4 Tryz.prog 9 (s9 b):=by
 refine Ja7 Tryz.func9 rfl Tryz.call9 Jaw _ rfl rfl rfl rfl (Nat.le_of_ble_eq_true (by kernel_rfl)) (fun _ _ _ _ h=>h) ?_
 intro hpre C hC _ hE
 obtain ⟨P,w0,E0,av,hA,ro,df⟩:=C
 obtain ⟨rfl,rfl,rfl⟩:=hC
 refine Ja0 ?_
 refine zR [1] [0] (Ak 2 tv) ?_
 refine Ja0 ?_
 refine Ja0 ?_
 refine zC ([(19,CallSpec.eq (s24 b.rate 0 9) [true,true,true]),(27,CallSpec.eq (s24 b.rep 0 b.rate) [true,true,true])]) [1,38] [0] (Ak 5 (An (fun (y0:(!decide (3 < (↑(b.lines.length):Int)))=true)=>(An (Ak 1 tv) tv)) (An (fun (y1:(!decide (3 < (↑(b.lines.length):Int)))=true)=>(An (An (fun (y2:(!decide (3 < (↑(b.lines.length):Int)))=true)=>y1) tv) tv)) (An (fun (y3:(!decide (3 < (↑(b.lines.length):Int)))=true)=>(An (An (fun (y4:(!decide (3 < (↑(b.lines.length):Int)))=true)=>y3) tv) tv)) (An (fun (y5:(!decide (3 < (↑(b.lines.length):Int)))=true)=>(An (An (fun (y6:(!decide (3 < (↑(b.lines.length):Int)))=true)=>y5) (Ak 1 tv)) tv)) (An (An (fun (y7:decide (3 < (↑(b.lines.length):Int))=true)=>tv) (fun (y8:decide (3 < (↑(b.lines.length):Int))=false)=>(o0 hpre y8))) (Ak 1 (An (fun (y9:(!bif decide (3 < (↑(b.lines.length):Int)) then true else decide (6 < (↑(b.shown.length):Int)))=true)=>(An (Ak 1 tv) tv)) (An (fun (y10:(!bif decide (3 < (↑(b.lines.length):Int)) then true else decide (6 < (↑(b.shown.length):Int)))=true)=>(An (An (fun (y11:(!bif decide (3 < (↑(b.lines.length):Int)) then true else decide (6 < (↑(b.shown.length):Int)))=true)=>y10) tv) tv)) (An (fun (y12:(!bif decide (3 < (↑(b.lines.length):Int)) then true else decide (6 < (↑(b.shown.length):Int)))=true)=>(An (An (fun (y13:(!bif decide (3 < (↑(b.lines.length):Int)) then true else decide (6 < (↑(b.shown.length):Int)))=true)=>y12) tv) tv)) (An (fun (y14:(!bif decide (3 < (↑(b.lines.length):Int)) then true else decide (6 < (↑(b.shown.length):Int)))=true)=>(An (An (fun (y15:(!bif decide (3 < (↑(b.lines.length):Int)) then true else decide (6 < (↑(b.shown.length):Int)))=true)=>y14) (Ak 1 tv)) tv)) (An (An (fun (y16:(bif decide (3 < (↑(b.lines.length):Int)) then true else decide (6 < (↑(b.shown.length):Int)))=true)=>tv) (fun (y17:(bif decide (3 < (↑(b.lines.length):Int)) then true else decide (6 < (↑(b.shown.length):Int)))=false)=>(o1 hpre y17))) (Ak 1 (An (fun (y18:(!bif bif decide (3 < (↑(b.lines.length):Int)) then true else decide (6 < (↑(b.shown.length):Int)) then true else decide (3 < (↑(b.ctrs.length):Int)))=true)=>(An (Ak 1 tv) tv)) (An (fun (y19:(!bif bif decide (3 < (↑(b.lines.length):Int)) then true else decide (6 < (↑(b.shown.length):Int)) then true else decide (3 < (↑(b.ctrs.length):Int)))=true)=>(An (An (fun (y20:(!bif bif decide (3 < (↑(b.lines.length):Int)) then true else decide (6 < (↑(b.shown.length):Int)) then true else decide (3 < (↑(b.ctrs.length):Int)))=true)=>y19) tv) tv)) (An (fun (y21:(!bif bif decide (3 < (↑(b.lines.length):Int)) then true else decide (6 < (↑(b.shown.length):Int)) then true else decide (3 < (↑(b.ctrs.length):Int)))=true)=>(An (Ak 1 (An (fun (y22:(!bif bif decide (3 < (↑(b.lines.length):Int)) then true else decide (6 < (↑(b.shown.length):Int)) then true else decide (3 < (↑(b.ctrs.length):Int)))=true)=>y21) (Ak 2 tv))) (An (An (zr (iv b.rate)) (An (zr (iv 0)) (An (zr (iv 9)) tv))) (An (t24 b.rate (0) (9)) (Ak 2 (fun (i23:Env)=>tv)))))) (An (fun (y24:(!bif bif decide (3 < (↑(b.lines.length):Int)) then true else decide (6 < (↑(b.shown.length):Int)) then true else decide (3 < (↑(b.ctrs.length):Int)))=true)=>(An (An (fun (y25:(!bif bif decide (3 < (↑(b.lines.length):Int)) then true else decide (6 < (↑(b.shown.length):Int)) then true else decide (3 < (↑(b.ctrs.length):Int)))=true)=>y24) tv) tv)) (An (An (fun (y26:(bif bif decide (3 < (↑(b.lines.length):Int)) then true else decide (6 < (↑(b.shown.length):Int)) then true else decide (3 < (↑(b.ctrs.length):Int)))=true)=>tv) (fun (y27:(bif bif decide (3 < (↑(b.lines.length):Int)) then true else decide (6 < (↑(b.shown.length):Int)) then true else decide (3 < (↑(b.ctrs.length):Int)))=false)=>(o2 hpre y27))) (Ak 1 (An (fun (y28:(!bif bif bif decide (3 < (↑(b.lines.length):Int)) then true else decide (6 < (↑(b.shown.length):Int)) then true else decide (3 < (↑(b.ctrs.length):Int)) then true else !Ja1 b.rate 0 9)=true)=>(An (Ak 1 tv) tv)) (An (fun (y29:(!bif bif bif decide (3 < (↑(b.lines.length):Int)) then true else decide (6 < (↑(b.shown.length):Int)) then true else decide (3 < (↑(b.ctrs.length):Int)) then true else !Ja1 b.rate 0 9)=true)=>(An (An (fun (y30:(!bif bif bif decide (3 < (↑(b.lines.length):Int)) then true else decide (6 < (↑(b.shown.length):Int)) then true else decide (3 < (↑(b.ctrs.length):Int)) then true else !Ja1 b.rate 0 9)=true)=>y29) tv) tv)) (An (fun (y31:(!bif bif bif decide (3 < (↑(b.lines.length):Int)) then true else decide (6 < (↑(b.shown.length):Int)) then true else decide (3 < (↑(b.ctrs.length):Int)) then true else !Ja1 b.rate 0 9)=true)=>(An (Ak 1 tv) tv)) (An (fun (y32:(!bif bif bif decide (3 < (↑(b.lines.length):Int)) then true else decide (6 < (↑(b.shown.length):Int)) then true else decide (3 < (↑(b.ctrs.length):Int)) then true else !Ja1 b.rate 0 9)=true)=>(An (An (fun (y33:(!bif bif bif decide (3 < (↑(b.lines.length):Int)) then true else decide (6 < (↑(b.shown.length):Int)) then true else decide (3 < (↑(b.ctrs.length):Int)) then true else !Ja1 b.rate 0 9)=true)=>y32) tv) tv)) (An (fun (y34:(!bif bif bif decide (3 < (↑(b.lines.length):Int)) then true else decide (6 < (↑(b.shown.length):Int)) then true else decide (3 < (↑(b.ctrs.length):Int)) then true else !Ja1 b.rate 0 9)=true)=>(An (Ak 1 (An (fun (y35:(!bif bif bif decide (3 < (↑(b.lines.length):Int)) then true else decide (6 < (↑(b.shown.length):Int)) then true else decide (3 < (↑(b.ctrs.length):Int)) then true else !Ja1 b.rate 0 9)=true)=>y34) (Ak 1 (An (fun (y36:(!bif bif bif decide (3 < (↑(b.lines.length):Int)) then true else decide (6 < (↑(b.shown.length):Int)) then true else decide (3 < (↑(b.ctrs.length):Int)) then true else !Ja1 b.rate 0 9)=true)=>y34) tv)))) (An (An (zr (iv b.rep)) (An (zr (iv 0)) (An (zr (iv b.rate)) tv))) (An (t24 b.rep (0) b.rate) (Ak 2 (fun (i37:Env)=>tv)))))) (An (fun (y38:(!bif bif bif decide (3 < (↑(b.lines.length):Int)) then true else decide (6 < (↑(b.shown.length):Int)) then true else decide (3 < (↑(b.ctrs.length):Int)) then true else !Ja1 b.rate 0 9)=true)=>(An (An (fun (y39:(!bif bif bif decide (3 < (↑(b.lines.length):Int)) then true else decide (6 < (↑(b.shown.length):Int)) then true else decide (3 < (↑(b.ctrs.length):Int)) then true else !Ja1 b.rate 0 9)=true)=>y38) tv) tv)) (An (An (fun (y40:(bif bif bif decide (3 < (↑(b.lines.length):Int)) then true else decide (6 < (↑(b.shown.length):Int)) then true else decide (3 < (↑(b.ctrs.length):Int)) then true else !Ja1 b.rate 0 9)=true)=>tv) (fun (y41:(bif bif bif decide (3 < (↑(b.lines.length):Int)) then true else decide (6 < (↑(b.shown.length):Int)) then true else decide (3 < (↑(b.ctrs.length):Int)) then true else !Ja1 b.rate 0 9)=false)=>(o3 hpre y41))) tv)))))))))))))))))))))))))) ?_
 refine zI (bif bif bif bif decide (3 < (↑(b.lines.length):Int)) then true else decide (6 < (↑(b.shown.length):Int)) then true else decide (3 < (↑(b.ctrs.length):Int)) then true else !Ja1 b.rate 0 9 then true else !Ja1 b.rep 0 b.rate) (fun y42 => ?_) (fun y42 => ?_)
 ·refine Ja0 ?_
  refine zR [2] [] (Ak 1 tv) ?_
  refine Ja5 ?_
  exact zT [] (An (Ak 1 tv) (An (An (ci (o4 hpre y42)) (zr nilN)) (An (zr true) (An (zr true) (zr true)))))
 ·refine Ja3 ?_
  refine Ja0 ?_
  refine Ja0 ?_
  refine zR [1,3] [0] (Ak 1 tv) ?_
  refine Ja2 ?_
  refine zL (Hint.ann (h9a b) [(1,AV.ptr 0 [])] [(0,OB.cells 39 (cBk b))] 10264) (zE hE [] [(0,.same 0)] [] [0] (An (An (An (zr (some (Src.same 0))) (zr nilP)) (An (An (ci (o5 hpre y42)) (zr nilN)) tv)) (An (An (An (zr (OB.cells 39 (cBk b))) (zr true)) tv) (An (zr true) (zr true))))) (o6 hpre y42) (fun (x43:Nat) hx43 => ?_)
  refine Ja0 ?_
  refine Ja0 ?_
  refine zR [1,3,43] [0] (Ak 5 tv) ?_
  refine zI (decide ((x43:Int) < (↑(b.lines.length):Int))) (fun y44 => ?_) (fun y44 => ?_)
  ·refine Ja3 ?_
   refine Ja0 ?_
   refine Ja2 ?_
   refine Ja0 ?_
   refine zC ([(5,CallSpec.eq (c9 b x43) [true,true])]) [1,3,52] [0] (Ak 3 (An (An (o7 hpre y42 x43 hx43 y44) (o8 hpre y42 x43 hx43 y44)) (Ak 1 (An (An (An (zr (AV.agg (Jb6 (lnB b x43)))) (An (zr (iv 9)) tv)) (An (t18 (lnB b x43) (9)) (Ak 2 (fun (i45:Env)=>tv)))) (Ak 1 tv))))) ?_
   refine zI (!Jay (lnB b x43) 9) (fun y46 => ?_) (fun y46 => ?_)
   ·refine Ja0 ?_
    refine zR [2] [] (Ak 1 tv) ?_
    refine Ja5 ?_
    exact zT [] (An (Ak 1 tv) (An (An (ci (o9 hpre y42 x43 hx43 y44 y46)) (zr nilN)) (An (zr true) (An (zr true) (zr true)))))
   ·refine Ja3 ?_
    refine zR [1,3] [0] (Ak 1 (An (o10 hpre y42 x43 hx43 y44 y46) (Ak 1 tv))) ?_
    exact zn (zE hE [] [(0,.same 0)] [] [0] (An (An (An (zr (some (Src.same 0))) (zr nilP)) (An (An (ci (o11 hpre y42 x43 hx43 y44 y46)) (zr nilN)) tv)) (An (An (An (zr (OB.cells 39 (cBk b))) (zr true)) tv) (An (zr true) (zr true))))) (o12 hpre y42 x43 hx43 y44 y46) (o13 hpre y42 x43 hx43 y44 y46)
  ·refine Jaa ?_
   refine Ja0 ?_
   refine Ja0 ?_
   refine zR [1,4] [0] (Ak 1 tv) ?_
   refine Ja2 ?_
   refine zL (Hint.ann (h9b b) [(1,AV.ptr 0 [])] [(0,OB.cells 39 (cBk b))] 20312) (zE hE [] [(0,.same 0)] [] [0] (An (An (An (zr (some (Src.same 0))) (zr nilP)) (An (An (ci (o14 hpre y42 x43 hx43 y44)) (zr nilN)) tv)) (An (An (An (zr (OB.cells 39 (cBk b))) (zr true)) tv) (An (zr true) (zr true))))) (o15 hpre y42 x43 hx43 y44) (fun (x47:Nat) hx47 => ?_)
   refine Ja0 ?_
   refine Ja0 ?_
   refine zR [1,4,57] [0] (Ak 5 tv) ?_
   refine zI (decide ((x47:Int) < (↑(b.shown.length):Int))) (fun y48 => ?_) (fun y48 => ?_)
   ·refine Ja3 ?_
    refine Ja0 ?_
    refine Ja2 ?_
    refine Ja0 ?_
    refine Ja0 ?_
    refine zR [1,4,5] [0,20392] (Ak 3 (An (An (o16 hpre y42 x43 hx43 y44 x47 hx47 y48) (o17 hpre y42 x43 hx43 y44 x47 hx47 y48)) (Ak 3 tv))) ?_
    refine Ja0 ?_
    refine zC ([(3,CallSpec.eq (s25 b (shB b x47).ad) [true,true]),(8,CallSpec.eq (s24 (shB b x47).day 0 13) [true,true,true]),(14,CallSpec.eq (s24 (shB b x47).ed 0 2) [true,true,true])]) [1,4,81] [0] (Ak 3 (An (An (An (zr (AV.agg (cBk b))) (An (zr (iv (shB b x47).ad)) tv)) (An (t25 (b) (shB b x47).ad) (An hpre (Ak 1 (fun (i49:Env)=>tv))))) (Ak 2 (An (fun (y50:(!!isAd b (shB b x47).ad)=true)=>(An (Ak 1 tv) tv)) (An (fun (y51:(!!isAd b (shB b x47).ad)=true)=>(An (An (fun (y52:(!!isAd b (shB b x47).ad)=true)=>y51) tv) tv)) (An (fun (y53:(!!isAd b (shB b x47).ad)=true)=>(An (Ak 1 (An (fun (y54:(!!isAd b (shB b x47).ad)=true)=>y53) (Ak 2 tv))) (An (An (zr (iv (shB b x47).day)) (An (zr (iv 0)) (An (zr (iv 13)) tv))) (An (t24 (shB b x47).day (0) (13)) (Ak 2 (fun (i55:Env)=>tv)))))) (An (fun (y56:(!!isAd b (shB b x47).ad)=true)=>(An (An (fun (y57:(!!isAd b (shB b x47).ad)=true)=>y56) tv) tv)) (An (An (fun (y58:(!isAd b (shB b x47).ad)=true)=>tv) (fun (y59:(!isAd b (shB b x47).ad)=false)=>(o18 hpre y42 x43 hx43 y44 x47 hx47 y48 y59))) (Ak 1 (An (fun (y60:(!bif !isAd b (shB b x47).ad then true else !Ja1 (shB b x47).day 0 13)=true)=>(An (Ak 1 tv) tv)) (An (fun (y61:(!bif !isAd b (shB b x47).ad then true else !Ja1 (shB b x47).day 0 13)=true)=>(An (An (fun (y62:(!bif !isAd b (shB b x47).ad then true else !Ja1 (shB b x47).day 0 13)=true)=>y61) tv) tv)) (An (fun (y63:(!bif !isAd b (shB b x47).ad then true else !Ja1 (shB b x47).day 0 13)=true)=>(An (Ak 1 (An (fun (y64:(!bif !isAd b (shB b x47).ad then true else !Ja1 (shB b x47).day 0 13)=true)=>y63) (Ak 2 tv))) (An (An (zr (iv (shB b x47).ed)) (An (zr (iv 0)) (An (zr (iv 2)) tv))) (An (t24 (shB b x47).ed (0) (2)) (Ak 2 (fun (i65:Env)=>tv)))))) (An (fun (y66:(!bif !isAd b (shB b x47).ad then true else !Ja1 (shB b x47).day 0 13)=true)=>(An (An (fun (y67:(!bif !isAd b (shB b x47).ad then true else !Ja1 (shB b x47).day 0 13)=true)=>y66) tv) tv)) (An (An (fun (y68:(bif !isAd b (shB b x47).ad then true else !Ja1 (shB b x47).day 0 13)=true)=>tv) (fun (y69:(bif !isAd b (shB b x47).ad then true else !Ja1 (shB b x47).day 0 13)=false)=>(o19 hpre y42 x43 hx43 y44 x47 hx47 y48 y69))) tv)))))))))))))) ?_
    refine zI (bif bif !isAd b (shB b x47).ad then true else !Ja1 (shB b x47).day 0 13 then true else !Ja1 (shB b x47).ed 0 2) (fun y70 => ?_) (fun y70 => ?_)
    ·refine Ja0 ?_
     refine zR [2] [] (Ak 1 tv) ?_
     refine Ja5 ?_
     exact zT [] (An (Ak 1 tv) (An (An (ci (o20 hpre y42 x43 hx43 y44 x47 hx47 y48 y70)) (zr nilN)) (An (zr true) (An (zr true) (zr true)))))
    ·refine Ja3 ?_
     refine Ja0 ?_
     refine zR [1,4,6] [0] (Ak 1 tv) ?_
     refine Ja2 ?_
     refine zL (Hint.ann (h9c b x47) [(1,AV.ptr 0 []),(4,iv (x47:Int))] [(0,OB.cells 39 (cBk b))] 30552) (zE hE [] [(0,.same 0)] [4] [0] (An (An (An (zr (some (Src.same 0))) (zr nilP)) (An (An (zr (iv (x47:Int))) (zr true)) (An (An (ci (o21 hpre y42 x43 hx43 y44 x47 hx47 y48 y70)) (zr nilN)) tv))) (An (An (An (zr (OB.cells 39 (cBk b))) (zr true)) tv) (An (zr true) (zr true))))) (o22 hpre y42 x43 hx43 y44 x47 hx47 y48 y70) (fun (x71:Nat) hx71 => ?_)
     refine Ja0 ?_
     refine Ja0 ?_
     refine zR [1,4,6,84] [0] (Ak 3 tv) ?_
     refine zI (decide ((x71:Int) < (x47:Int))) (fun y72 => ?_) (fun y72 => ?_)
     ·refine Ja3 ?_
      refine Ja0 ?_
      refine Ja2 ?_
      refine Ja0 ?_
      refine zR [1,4,6,97] [0] (Ak 3 (An (An (o23 hpre y42 x43 hx43 y44 x47 hx47 y48 y70 x71 hx71 y72) (o24 hpre y42 x43 hx43 y44 x47 hx47 y48 y70 x71 hx71 y72)) (Ak 4 (An (An (o25 hpre y42 x43 hx43 y44 x47 hx47 y48 y70 x71 hx71 y72) (o26 hpre y42 x43 hx43 y44 x47 hx47 y48 y70 x71 hx71 y72)) (Ak 2 tv))))) ?_
      refine zI (decide ((shB b x71).ad=(shB b x47).ad) && (decide ((shB b x71).day=(shB b x47).day) && (decide ((shB b x71).ed=(shB b x47).ed) && true))) (fun y73 => ?_) (fun y73 => ?_)
      ·refine Ja0 ?_
       refine zR [2] [] (Ak 1 tv) ?_
       refine Ja5 ?_
       exact zT [] (An (Ak 1 tv) (An (An (ci (o27 hpre y42 x43 hx43 y44 x47 hx47 y48 y70 x71 hx71 y72 y73)) (zr nilN)) (An (zr true) (An (zr true) (zr true)))))
      ·refine Ja3 ?_
       refine zR [1,4,6] [0] (Ak 1 (An (o28 hpre y42 x43 hx43 y44 x47 hx47 y48 y70 x71 hx71 y72 y73) (Ak 1 tv))) ?_
       exact zn (zE hE [] [(0,.same 0)] [4] [0] (An (An (An (zr (some (Src.same 0))) (zr nilP)) (An (An (zr (iv (x47:Int))) (zr true)) (An (An (ci (o29 hpre y42 x43 hx43 y44 x47 hx47 y48 y70 x71 hx71 y72 y73)) (zr nilN)) tv))) (An (An (An (zr (OB.cells 39 (cBk b))) (zr true)) tv) (An (zr true) (zr true))))) (o30 hpre y42 x43 hx43 y44 x47 hx47 y48 y70 x71 hx71 y72 y73) (o31 hpre y42 x43 hx43 y44 x47 hx47 y48 y70 x71 hx71 y72 y73)
     ·refine Jaa ?_
      refine zR [1,4] [0] (Ak 1 (An (o32 hpre y42 x43 hx43 y44 x47 hx47 y48 y70 x71 hx71 y72) (Ak 1 tv))) ?_
      exact zn (zE hE [] [(0,.same 0)] [] [0] (An (An (An (zr (some (Src.same 0))) (zr nilP)) (An (An (ci (o33 hpre y42 x43 hx43 y44 x47 hx47 y48 y70 x71 hx71 y72)) (zr nilN)) tv)) (An (An (An (zr (OB.cells 39 (cBk b))) (zr true)) tv) (An (zr true) (zr true))))) (o34 hpre y42 x43 hx43 y44 x47 hx47 y48 y70 x71 hx71 y72) (o35 hpre y42 x43 hx43 y44 x47 hx47 y48 y70 x71 hx71 y72)
   ·refine Jaa ?_
    refine Ja0 ?_
    refine Ja0 ?_
    refine zR [1,7] [0] (Ak 1 tv) ?_
    refine Ja2 ?_
    refine zL (Hint.ann (h9d b) [(1,AV.ptr 0 [])] [(0,OB.cells 39 (cBk b))] 30360) (zE hE [] [(0,.same 0)] [] [0] (An (An (An (zr (some (Src.same 0))) (zr nilP)) (An (An (ci (o36 hpre y42 x43 hx43 y44 x47 hx47 y48)) (zr nilN)) tv)) (An (An (An (zr (OB.cells 39 (cBk b))) (zr true)) tv) (An (zr true) (zr true))))) (o37 hpre y42 x43 hx43 y44 x47 hx47 y48) (fun (x74:Nat) hx74 => ?_)
    refine Ja0 ?_
    refine Ja0 ?_
    refine zR [1,7,102] [0] (Ak 5 tv) ?_
    refine zI (decide ((x74:Int) < (↑(b.ctrs.length):Int))) (fun y75 => ?_) (fun y75 => ?_)
    ·refine Ja3 ?_
     refine Ja0 ?_
     refine Ja2 ?_
     refine Ja0 ?_
     refine zR [1,7,8] [0,30440] (Ak 3 (An (An (o38 hpre y42 x43 hx43 y44 x47 hx47 y48 x74 hx74 y75) (o39 hpre y42 x43 hx43 y44 x47 hx47 y48 x74 hx74 y75)) (Ak 3 tv))) ?_
     refine Ja0 ?_
     refine zC ([(2,CallSpec.eq (s24 (ctB b x74).frm 0 13) [true,true,true]),(7,CallSpec.eq (s24 (ctB b x74).days 1 7) [true,true,true]),(13,CallSpec.eq (s24 (ctB b x74).room 0 99) [true,true,true]),(19,CallSpec.eq (s24 (ctB b x74).pence 0 99) [true,true,true])]) [1,7,131] [0] (Ak 2 (An (An (An (zr (iv (ctB b x74).frm)) (An (zr (iv 0)) (An (zr (iv 13)) tv))) (An (t24 (ctB b x74).frm (0) (13)) (Ak 2 (fun (i76:Env)=>tv)))) (Ak 2 (An (fun (y77:(!!Ja1 (ctB b x74).frm 0 13)=true)=>(An (Ak 1 tv) tv)) (An (fun (y78:(!!Ja1 (ctB b x74).frm 0 13)=true)=>(An (An (fun (y79:(!!Ja1 (ctB b x74).frm 0 13)=true)=>y78) tv) tv)) (An (fun (y80:(!!Ja1 (ctB b x74).frm 0 13)=true)=>(An (Ak 1 (An (fun (y81:(!!Ja1 (ctB b x74).frm 0 13)=true)=>y80) (Ak 2 tv))) (An (An (zr (iv (ctB b x74).days)) (An (zr (iv 1)) (An (zr (iv 7)) tv))) (An (t24 (ctB b x74).days (1) (7)) (Ak 2 (fun (i82:Env)=>tv)))))) (An (fun (y83:(!!Ja1 (ctB b x74).frm 0 13)=true)=>(An (An (fun (y84:(!!Ja1 (ctB b x74).frm 0 13)=true)=>y83) tv) tv)) (An (An (fun (y85:(!Ja1 (ctB b x74).frm 0 13)=true)=>tv) (fun (y86:(!Ja1 (ctB b x74).frm 0 13)=false)=>(o40 hpre y42 x43 hx43 y44 x47 hx47 y48 x74 hx74 y75 y86))) (Ak 1 (An (fun (y87:(!bif !Ja1 (ctB b x74).frm 0 13 then true else !Ja1 (ctB b x74).days 1 7)=true)=>(An (Ak 1 tv) tv)) (An (fun (y88:(!bif !Ja1 (ctB b x74).frm 0 13 then true else !Ja1 (ctB b x74).days 1 7)=true)=>(An (An (fun (y89:(!bif !Ja1 (ctB b x74).frm 0 13 then true else !Ja1 (ctB b x74).days 1 7)=true)=>y88) tv) tv)) (An (fun (y90:(!bif !Ja1 (ctB b x74).frm 0 13 then true else !Ja1 (ctB b x74).days 1 7)=true)=>(An (Ak 1 (An (fun (y91:(!bif !Ja1 (ctB b x74).frm 0 13 then true else !Ja1 (ctB b x74).days 1 7)=true)=>y90) (Ak 2 tv))) (An (An (zr (iv (ctB b x74).room)) (An (zr (iv 0)) (An (zr (iv 99)) tv))) (An (t24 (ctB b x74).room (0) (99)) (Ak 2 (fun (i92:Env)=>tv)))))) (An (fun (y93:(!bif !Ja1 (ctB b x74).frm 0 13 then true else !Ja1 (ctB b x74).days 1 7)=true)=>(An (An (fun (y94:(!bif !Ja1 (ctB b x74).frm 0 13 then true else !Ja1 (ctB b x74).days 1 7)=true)=>y93) tv) tv)) (An (An (fun (y95:(bif !Ja1 (ctB b x74).frm 0 13 then true else !Ja1 (ctB b x74).days 1 7)=true)=>tv) (fun (y96:(bif !Ja1 (ctB b x74).frm 0 13 then true else !Ja1 (ctB b x74).days 1 7)=false)=>(o41 hpre y42 x43 hx43 y44 x47 hx47 y48 x74 hx74 y75 y96))) (Ak 1 (An (fun (y97:(!bif bif !Ja1 (ctB b x74).frm 0 13 then true else !Ja1 (ctB b x74).days 1 7 then true else !Ja1 (ctB b x74).room 0 99)=true)=>(An (Ak 1 tv) tv)) (An (fun (y98:(!bif bif !Ja1 (ctB b x74).frm 0 13 then true else !Ja1 (ctB b x74).days 1 7 then true else !Ja1 (ctB b x74).room 0 99)=true)=>(An (An (fun (y99:(!bif bif !Ja1 (ctB b x74).frm 0 13 then true else !Ja1 (ctB b x74).days 1 7 then true else !Ja1 (ctB b x74).room 0 99)=true)=>y98) tv) tv)) (An (fun (y100:(!bif bif !Ja1 (ctB b x74).frm 0 13 then true else !Ja1 (ctB b x74).days 1 7 then true else !Ja1 (ctB b x74).room 0 99)=true)=>(An (Ak 1 (An (fun (y101:(!bif bif !Ja1 (ctB b x74).frm 0 13 then true else !Ja1 (ctB b x74).days 1 7 then true else !Ja1 (ctB b x74).room 0 99)=true)=>y100) (Ak 2 tv))) (An (An (zr (iv (ctB b x74).pence)) (An (zr (iv 0)) (An (zr (iv 99)) tv))) (An (t24 (ctB b x74).pence (0) (99)) (Ak 2 (fun (i102:Env)=>tv)))))) (An (fun (y103:(!bif bif !Ja1 (ctB b x74).frm 0 13 then true else !Ja1 (ctB b x74).days 1 7 then true else !Ja1 (ctB b x74).room 0 99)=true)=>(An (An (fun (y104:(!bif bif !Ja1 (ctB b x74).frm 0 13 then true else !Ja1 (ctB b x74).days 1 7 then true else !Ja1 (ctB b x74).room 0 99)=true)=>y103) tv) tv)) (An (An (fun (y105:(bif bif !Ja1 (ctB b x74).frm 0 13 then true else !Ja1 (ctB b x74).days 1 7 then true else !Ja1 (ctB b x74).room 0 99)=true)=>tv) (fun (y106:(bif bif !Ja1 (ctB b x74).frm 0 13 then true else !Ja1 (ctB b x74).days 1 7 then true else !Ja1 (ctB b x74).room 0 99)=false)=>(o42 hpre y42 x43 hx43 y44 x47 hx47 y48 x74 hx74 y75 y106))) tv)))))))))))))))))))) ?_
     refine zI (bif bif bif !Ja1 (ctB b x74).frm 0 13 then true else !Ja1 (ctB b x74).days 1 7 then true else !Ja1 (ctB b x74).room 0 99 then true else !Ja1 (ctB b x74).pence 0 99) (fun y107 => ?_) (fun y107 => ?_)
     ·refine Ja0 ?_
      refine zR [2] [] (Ak 1 tv) ?_
      refine Ja5 ?_
      exact zT [] (An (Ak 1 tv) (An (An (ci (o43 hpre y42 x43 hx43 y44 x47 hx47 y48 x74 hx74 y75 y107)) (zr nilN)) (An (zr true) (An (zr true) (zr true)))))
     ·refine Ja3 ?_
      refine zR [1,7] [0] (Ak 1 (An (o44 hpre y42 x43 hx43 y44 x47 hx47 y48 x74 hx74 y75 y107) (Ak 1 tv))) ?_
      exact zn (zE hE [] [(0,.same 0)] [] [0] (An (An (An (zr (some (Src.same 0))) (zr nilP)) (An (An (ci (o45 hpre y42 x43 hx43 y44 x47 hx47 y48 x74 hx74 y75 y107)) (zr nilN)) tv)) (An (An (An (zr (OB.cells 39 (cBk b))) (zr true)) tv) (An (zr true) (zr true))))) (o46 hpre y42 x43 hx43 y44 x47 hx47 y48 x74 hx74 y75 y107) (o47 hpre y42 x43 hx43 y44 x47 hx47 y48 x74 hx74 y75 y107)
    ·refine Jaa ?_
     refine Ja0 ?_
     refine zR [2] [] (Ak 1 tv) ?_
     refine Ja5 ?_
     exact zT [] (An (Ak 1 tv) (An (An (ci (o48 hpre y42 x43 hx43 y44 x47 hx47 y48 x74 hx74 y75)) (zr nilN)) (An (zr true) (An (zr true) (zr true)))))
theorem t9 (b:Book):Ja4 Tryz.prog 9 (s9 b):=by
 apply w9
 all_goals (try delta q5d q5e q5f q5g q5h q5i q5j q5k q5l q5m q5n q5o q5p q5q q5r)
 case o4=>intro hp h; rw [JoB] at h; exact Jkc (by simpa using h)
 case o9=>intro hp h x hx hl h2; simp only [decide_eq_true_eq] at hl; exact Jpb (x:=x) (by omega) (by unfold okLn; simpa using h2)
 case o12=>intro hp h x hx hl h2; simp only [decide_eq_true_eq] at hl; exact ⟨by omega,Jad hx.2 (by unfold okLn; simpa using h2)⟩
 case o20 =>
  intro hp h x hx hl y hy hl2 h2
  simp only [decide_eq_true_eq] at hl2
  refine JmX (x:=y) (by omega) ?_
  unfold JcS
  revert h2
  cases isAd b (shB b y).ad <;> cases Ja1 (shB b y).day 0 13 <;> cases Ja1 (shB b y).ed 0 2 <;> intro h2 <;> first | rfl | cases h2
 case o27 =>
  intro hp h x hx hl y hy hl2 h2 z hz hl3 h3
  simp only [decide_eq_true_eq] at hl2 hl3
  rw [Jke] at h3
  refine JmX (x:=y) (by omega) ?_
  have:((List.range y).all fun k => !decide (shB b k=shB b y))=false:=by
   rw [List.all_eq_false]
   refine ⟨z,List.mem_range.2 (by omega),?_⟩
   have e:=of_decide_eq_true h3
   rw [decide_eq_true e.symm]; simp
  unfold JcS; rw [this]; simp
 case o30 =>
  intro hp h x hx hl y hy hl2 h2 z hz hl3 h3
  simp only [decide_eq_true_eq] at hl2 hl3
  rw [Jke] at h3
  have e:=of_decide_eq_false h3
  exact ⟨by omega,Jad hz.2 (decide_eq_false fun h=>e h.symm)⟩
 case o34 =>
  intro hp h x hx hl y hy hl2 h2 z hz hl3
  simp only [decide_eq_true_eq,decide_eq_false_iff_not] at hl2 hl3
  refine ⟨by omega,Jad hy.2 ?_⟩
  have:((List.range y).all fun k => !decide (shB b k=shB b y))=true:=by
   rw [List.all_eq_true]
   intro k hk
   rw [hz.2 k (by have:=List.mem_range.1 hk; omega)]; rfl
  unfold JcS
  rw [this]
  revert h2
  cases isAd b (shB b y).ad <;> cases Ja1 (shB b y).day 0 13 <;> cases Ja1 (shB b y).ed 0 2 <;> intro h2 <;> first | rfl | cases h2
 case o43=>intro hp h x hx hl y hy hl2 z hz hl3 h2; rw [ct8] at h2; simp only [decide_eq_true_eq] at hl3; exact Jpc (x:=z) (by omega) (by simpa using h2)
 case o46=>intro hp h x hx hl y hy hl2 z hz hl3 h2; rw [ct8] at h2; simp only [decide_eq_true_eq] at hl3; exact ⟨by omega,Jad hz.2 (by simpa using h2)⟩
 case o48 =>
  intro hp h x hx hl y hy hl2 z hz hl3
  rw [JoB] at h
  simp only [decide_eq_false_iff_not] at hl hl2 hl3
  exact Jpd (by simpa using h) (fun j hj=>hx.2 j (by omega)) (fun j hj=>hy.2 j (by omega)) (fun j hj=>hz.2 j (by omega))
 all_goals (simp only [Jin,big,inI] at *)
 all_goals (try ((repeat intro _) <;> (try simp only [Bool.cond_true_left,Bool.cond_false_right,Bool.not_not,Bool.not_eq_true',Bool.not_eq_false',Bool.or_eq_true,Bool.or_eq_false_iff,Bool.and_eq_true,decide_eq_true_eq,decide_eq_false_iff_not,inI,big] at *) <;> first | (exact rfl) | omega | (exact ⟨Nat.zero_le _,fun j hj=>absurd hj (Nat.not_lt_zero j)⟩) | (simp_all; done) | (simp_all; omega)))
theorem chk_b {b:Book}:(!decide (Jas b=0)) = !JaR b:=by
 unfold Jas; cases JaR b <;> rfl
theorem w44 (n:Int) :
  Ja4 Tryz.prog 44 (s44 n):=by
 refine Ja7 Tryz.func44 rfl Tryz.call44 Jaw _ rfl rfl rfl rfl (Nat.le_of_ble_eq_true (by kernel_rfl)) (fun _ _ _ _ h=>h) ?_
 intro _ C hC _ hE
 obtain ⟨P,w0,E0,av,hA,ro,df⟩:=C
 obtain ⟨rfl,rfl,rfl⟩:=hC
 refine Ja0 ?_
 refine zR [0] [] (Ak 1 tv) ?_
 refine Ja0 ?_
 refine zC ([(1,CallSpec.eq (s45 n 0 9) [true,true,true])]) [2] [] (Ak 1 (An (An (An (zr (iv n)) (An (zr (iv 0)) (An (zr (iv 9)) tv))) (An (t45 (n) (0) (9)) (Ak 2 (fun (i0:Env)=>tv)))) (Ak 2 tv))) ?_
 refine Ja5 ?_
 exact zT [] (An (Ak 1 tv) (An (An (zr (bv !Ja1 n 0 9)) (zr nilN)) (An (zr true) (An (zr true) (zr true)))))
theorem t44 (n:Int):Ja4 Tryz.prog 44 (s44 n):=by
 apply w44
end Go.Ab
namespace Go.Sh
open Go.Ab
variable {b:Book} {ls:List Int}
def JfF (b:Book) (s:Sday) (y:Int):Bool:=decide (y = -1) || (isCt b y && Jq6 (ctB b y.toNat) s.day)
def lnAt (ls:List Int) (s:Sday):Int:=ls.getD s.ad.toNat 0
def JcT (b:Book) (ls l:List Int) (c:Int):Nat->Int
 | 0=>0
 | i + 1=>if l.getD i 0=c then JcT b ls l c i + lnAt ls (sdA b i) else JcT b ls l c i
def JcG (b:Book) (ls l:List Int):Nat->Int
 | 0=>0
 | i + 1=>if l.getD i 0 = -1 then JcG b ls l i + Jb1 b ls (sdA b i) else JcG b ls l i
def JcH (b:Book) (l:List Int):Nat->Int
 | 0=>0
 | c + 1=>if isIn l c then JcH b l c + (ctB b c).pence else JcH b l c
def Jcy (b:Book) (ls l:List Int):Bool:=decide (l.length=(stds b).length) && ((List.range (stds b).length).all (fun i=>JfF b (sdA b i) (l.getD i 0)) && (List.range b.ctrs.length).all fun c=>decide (JcT b ls l c (stds b).length<=(ctB b c).room))
def Jdh (b:Book) (ls l:List Int):Int:=JcG b ls l (stds b).length + JcH b l b.ctrs.length
def Jch (b:Book):Nat->List Int->List (List Int)
 | 0,l=>[l]
 | m + 1,l=>(bysB b).flatMap fun y=>Jch b m (l ++ [y])
def pOK (b:Book) (ls l:List Int):Prop:=(∀ i,i < l.length->JfF b (sdA b i) (l.getD i 0)=true) /\ ∀ c,c < b.ctrs.length->JcT b ls l c l.length<=(ctB b c).room
instance (b:Book) (ls l:List Int):Decidable (pOK b ls l):=by unfold pOK; infer_instance
def JeE (b:Book) (ls l:List Int):Desk:=⟨fun c=>(ctB b c).room - JcT b ls l c l.length,fun c=>l.count (c:Int),JcG b ls l l.length + JcH b l b.ctrs.length⟩
theorem JcI {l:List Int} {p:Int}:isIn l p=true ↔ p ∈ l:=by
 unfold isIn
 rw [List.any_eq_true]
 constructor
 ·rintro ⟨x,hx,h⟩; rw [decide_eq_true_eq] at h; rw [← h]; exact hx
 ·intro h; exact ⟨p,h,by simp⟩
theorem Jkf (l:List Int) (y:Int) {i:Nat} (h:i < l.length):(l ++ [y]).getD i 0=l.getD i 0:=by rw [Jbf,if_pos h]
theorem Jiq (l:List Int) (y:Int):(l ++ [y]).getD l.length 0=y:=by rw [Jbf,if_neg (Nat.lt_irrefl _),Nat.sub_self]; rfl
theorem Jq8 (l:List Int) (y c:Int):∀ {n:Nat},n<=l.length->JcT b ls (l ++ [y]) c n=JcT b ls l c n:=by
 intro n
 induction n with
 | zero=>intro _; rfl
 | succ n ih =>
  intro h
  rw [JcT,JcT,ih (by omega),Jkf l y (by omega)]
theorem Je9 (l:List Int) (y c:Int):JcT b ls (l ++ [y]) c (l ++ [y]).length=if y=c then JcT b ls l c l.length + lnAt ls (sdA b l.length) else JcT b ls l c l.length:=by
 rw [List.length_append,List.length_singleton,JcT,Jq8 l y c (Nat.le_refl _),Jiq]
theorem Jq9 (l:List Int) (y:Int):∀ {n:Nat},n<=l.length->JcG b ls (l ++ [y]) n=JcG b ls l n:=by
 intro n
 induction n with
 | zero=>intro _; rfl
 | succ n ih =>
  intro h
  rw [JcG,JcG,ih (by omega),Jkf l y (by omega)]
theorem Jkg (l:List Int) (y:Int):JcG b ls (l ++ [y]) (l ++ [y]).length=if y = -1 then JcG b ls l l.length + Jb1 b ls (sdA b l.length) else JcG b ls l l.length:=by
 rw [List.length_append,List.length_singleton,JcG,Jq9 l y (Nat.le_refl _),Jiq]
theorem Jkh (l:List Int) (y:Int):∀ n:Nat,JcH b (l ++ [y]) n=JcH b l n + (if (0<=y/\y < n)/\y ∉ l then (ctB b y.toNat).pence else 0):=by
 intro n
 induction n with
 | zero=>rw [JcH,JcH,if_neg (by omega)]; rfl
 | succ n ih =>
  rw [JcH,JcH,ih]
  by_cases hy:y=(n:Int)
  ·subst hy
   have h1:isIn (l ++ [(n:Int)]) n=true:=JcI.2 (by simp)
   rw [h1,if_pos rfl,if_neg (by omega)]
   by_cases hm:(n:Int) ∈ l
   ·rw [JcI.2 hm,if_pos rfl,if_neg (by simp [hm])]; omega
   ·have h2:isIn l n=false:=by cases e:isIn l n with | false=>rfl | true=>exact absurd (JcI.1 e) hm
    rw [h2,if_neg (by simp),if_pos ⟨by omega,hm⟩,Int.toNat_natCast]; omega
  ·have h1:isIn (l ++ [y]) n=isIn l n:=by
    rw [Bool.eq_iff_iff,JcI,JcI]
    simp only [List.mem_append,List.mem_singleton]
    constructor
    ·rintro (h | h)
     ·exact h
     ·exact absurd h.symm hy
    ·exact Or.inl
   have h2:((0<=y/\y < ((n + 1:Nat):Int))/\y ∉ l) ↔ ((0<=y/\y < (n:Int))/\y ∉ l):=by
    constructor
    ·rintro ⟨h,k⟩; exact ⟨by omega,k⟩
    ·rintro ⟨h,k⟩; exact ⟨by omega,k⟩
   rw [h1]
   simp only [h2]
   split <;> omega
theorem JoC:JeE b ls []=JaG b:=by
 unfold JeE JaG
 congr 1
 ·funext c
  show (ctB b c).room - 0=_
  omega
 ·have:∀ n,JcH b [] n=0:=by
   intro n
   induction n with
   | zero=>rfl
   | succ n ih=>rw [JcH,ih]; rfl
  rw [this]; rfl
theorem JmY (l:List Int) (y:Int) (h:JfF b (sdA b l.length) y=true):JeE b ls (l ++ [y])=Jb2 b ls (JeE b ls l) (sdA b l.length) y:=by
 unfold JeE Jb2
 by_cases hy:y = -1
 ·subst hy
  rw [if_pos rfl]
  refine Desk.mk.injEq .. |>.mpr ⟨?_,?_,?_⟩
  ·funext c
   rw [Je9,if_neg (by omega)]
  ·funext c
   rw [List.count_append]
   have:List.count (c:Int) [-1]=0:=List.count_eq_zero.2 (by simp)
   rw [this]
   rfl
  ·rw [Jkg,if_pos rfl,Jkh,if_neg (by omega)]
   simp only
   omega
 ·rw [if_neg hy]
  have hc:isCt b y=true:=by
   unfold JfF at h
   simp only [Bool.or_eq_true,decide_eq_true_eq,Bool.and_eq_true] at h
   rcases h with h | h
   ·exact absurd h hy
   ·exact h.1
  have hr:=Je7 hc
  rw [if_pos hc]
  refine Desk.mk.injEq .. |>.mpr ⟨?_,?_,?_⟩
  ·funext c
   rw [Je9]
   unfold setF
   by_cases e:c=y.toNat
   ·subst e
    rw [if_pos (by omega),if_pos rfl]
    have hcount:((y.toNat:Nat):Int)=y:=by omega
    show (ctB b y.toNat).room - (_ + _)=(ctB b y.toNat).room - JcT b ls l ((y.toNat:Nat):Int) l.length - _
    rw [hcount]
    unfold lnAt
    omega
   ·rw [if_neg (by omega),if_neg e]
  ·funext c
   rw [List.count_append]
   unfold setF
   by_cases e:c=y.toNat
   ·subst e
    have hcount:((y.toNat:Nat):Int)=y:=by omega
    show ((l.count ((y.toNat:Nat):Int) + List.count ((y.toNat:Nat):Int) [y]:Nat):Int)=if y.toNat=y.toNat then ((l.count ((y.toNat:Nat):Int):Nat):Int) + 1 else _
    rw [if_pos rfl,hcount,List.count_singleton_self]; rfl
   ·rw [if_neg e]
    have:List.count (c:Int) [y]=0:=List.count_eq_zero.2 (by simp; omega)
    rw [this]; simp
  ·rw [Jkg,if_neg hy,Jkh]
   have hcount:((y.toNat:Nat):Int)=y:=by omega
   show _=if ((l.count ((y.toNat:Nat):Int):Nat):Int) + 1=1 then _ else _
   rw [hcount]
   by_cases hm:y ∈ l
   ·have:=List.count_pos_iff.2 hm
    rw [if_neg (by simp [hm]),if_neg (by omega)]; show _=JcG b ls l l.length + JcH b l b.ctrs.length; omega
   ·have:=List.count_eq_zero.2 hm
    rw [if_pos ⟨hr,hm⟩,if_pos (by omega)]; show _=JcG b ls l l.length + JcH b l b.ctrs.length + _; omega
theorem Jjt (hl:JaL b ls) (l:List Int) (y:Int):pOK b ls (l ++ [y]) ↔ pOK b ls l/\Jbl b ls (JeE b ls l) (sdA b l.length) y=true:=by
 have hp:∀ c:Nat,JcT b ls l c l.length<=JcT b ls (l ++ [y]) c (l ++ [y]).length:=by
  intro c
  rw [Je9]
  have:=(hl.2 (sdA b l.length).ad.toNat).1
  unfold lnAt
  split <;> omega
 have hget:∀ i,i < l.length->(l ++ [y]).getD i 0=l.getD i 0:=by
  intro i hi
  rw [Jbf,if_pos hi]
 have hlast:(l ++ [y]).getD l.length 0=y:=by
  rw [Jbf,if_neg (by omega),Nat.sub_self]; rfl
 have hslot:(∀ i,i < (l ++ [y]).length->JfF b (sdA b i) ((l ++ [y]).getD i 0)=true) ↔ (∀ i,i < l.length->JfF b (sdA b i) (l.getD i 0)=true)/\JfF b (sdA b l.length) y=true:=by
  constructor
  ·intro h
   refine ⟨fun i hi => ?_,?_⟩
   ·rw [← hget i hi]; exact h i (by simp; omega)
   ·have:=h l.length (by simp)
    rwa [hlast] at this
  ·rintro ⟨h,k⟩ i hi
   by_cases e:i=l.length
   ·subst e; rw [hlast]; exact k
   ·have hi':i < l.length:=by simp at hi; omega
    rw [hget i hi']; exact h i hi'
 unfold pOK
 rw [hslot]
 constructor
 ·rintro ⟨⟨h1,h2⟩,h3⟩
  refine ⟨⟨h1,fun c hc=>Int.le_trans (hp c) (h3 c hc)⟩,?_⟩
  unfold Jbl
  split
  ·rfl
  ·rename_i hy
   unfold JfF at h2
   simp only [Bool.or_eq_true,decide_eq_true_eq,Bool.and_eq_true] at h2
   rcases h2 with h2 | h2
   ·exact absurd h2 hy
   ·have hr:=Je7 h2.1
    have h4:=h3 y.toNat (by omega)
    rw [Je9,if_pos (by omega)] at h4
    simp only [h2.1,h2.2,Bool.true_and,decide_eq_true_eq]
    unfold lnAt at h4
    show 0<=(ctB b y.toNat).room - _ - _
    omega
 ·rintro ⟨⟨h1,h3⟩,h2⟩
  have hs:JfF b (sdA b l.length) y=true:=by
   unfold Jbl at h2
   unfold JfF
   split at h2
   ·rename_i hy; simp [hy]
   ·simp only [Bool.and_eq_true] at h2
    simp [h2.1,h2.2.1]
  refine ⟨⟨h1,hs⟩,fun c hc => ?_⟩
  rw [Je9]
  split
  ·rename_i hy
   subst hy
   unfold Jbl at h2
   rw [if_neg (by omega)] at h2
   simp only [Bool.and_eq_true,decide_eq_true_eq] at h2
   have h4:0<=(ctB b (c:Int).toNat).room - JcT b ls l ((c:Int).toNat:Int) l.length - ls.getD (sdA b l.length).ad.toNat 0:=h2.2.2
   rw [Int.toNat_natCast] at h4
   unfold lnAt
   omega
  ·exact h3 c hc
theorem JfG {α β:Type} (p:β->Bool) (f:α->List β) (l:List α):(l.flatMap f).filter p=l.flatMap fun x=>(f x).filter p:=by
 induction l with
 | nil=>rfl
 | cons x l ih=>rw [List.flatMap_cons,List.flatMap_cons,List.filter_append,ih]
theorem JoD (hl:JaL b ls):∀ (m:Nat) (l:List Int),¬ pOK b ls l->(Jch b m l).filter (fun l=>decide (pOK b ls l)) = []:=by
 intro m
 induction m with
 | zero=>intro l h; simp [Jch,h]
 | succ m ih =>
  intro l h
  rw [Jch,JfG]
  refine List.flatMap_eq_nil_iff.2 fun y _=>ih _ fun h2=>h ((Jjt hl l y).1 h2).1
theorem Jdw {α β:Type} {f g:α->List β}:∀ {l:List α},(∀ x,x ∈ l->f x=g x)->l.flatMap f=l.flatMap g:=by
 intro l
 induction l with
 | nil=>intro _; rfl
 | cons x l ih=>intro h; rw [List.flatMap_cons,List.flatMap_cons,h x (by simp),ih (fun y hy=>h y (by simp [hy]))]
theorem Jir {α β γ:Type} (g:β->γ) (f:α->List β) (l:List α):(l.flatMap f).map g=l.flatMap fun x=>(f x).map g:=by
 induction l with
 | nil=>rfl
 | cons x l ih=>rw [List.flatMap_cons,List.flatMap_cons,List.map_append,ih]
theorem Jl7 (hl:JaL b ls):∀ (m:Nat) (l:List Int),pOK b ls l->l.length + m=(stds b).length->Jg4 b ls m (JeE b ls l) l=((Jch b m l).filter fun l=>decide (pOK b ls l)).map fun l=>(l,Jdh b ls l):=by
 intro m
 induction m with
 | zero =>
  intro l h hm
  rw [Jg4,Jch,List.filter_cons,if_pos (by simpa using h)]
  have:l.length=(stds b).length:=by omega
  show [(l,JcG b ls l l.length + JcH b l b.ctrs.length)] = [(l,Jdh b ls l)]
  rw [this]; rfl
 | succ m ih =>
  intro l h hm
  rw [Jg4,Jch,JfG,Jir]
  refine Jdw fun y _ => ?_
  by_cases hy:Jbl b ls (JeE b ls l) (sdA b l.length) y=true
  ·have h2:=(Jjt hl l y).2 ⟨h,hy⟩
   rw [if_pos hy,← JmY l y ?_]
   ·exact ih _ h2 (by simp; omega)
   ·have:=h2.1 l.length (by simp)
    rwa [Jbf,if_neg (by omega),Nat.sub_self] at this
  ·rw [if_neg hy,JoD hl m _ fun h2=>hy ((Jjt hl l y).1 h2).2]; rfl
theorem Jhl {l:List Int}:Jcy b ls l=true ↔ l.length=(stds b).length/\pOK b ls l:=by
 unfold Jcy pOK
 simp only [Bool.and_eq_true,decide_eq_true_eq,List.all_eq_true,List.mem_range]
 constructor
 ·rintro ⟨h1,h2,h3⟩; rw [h1]; exact ⟨rfl,h2,h3⟩
 ·rintro ⟨h1,h2,h3⟩; rw [h1] at h2 h3; exact ⟨h1,h2,h3⟩
def JfH (b:Book) (ls:List Int):List (List Int):=(Jch b (stds b).length []).filter (Jcy b ls)
theorem JmZ:∀ (m:Nat) (l x:List Int),x ∈ Jch b m l->x.length=l.length + m:=by
 intro m
 induction m with
 | zero=>intro l x h; simp [Jch] at h; rw [h]; rfl
 | succ m ih =>
  intro l x h
  rw [Jch] at h
  obtain ⟨y,_,h⟩:=List.mem_flatMap.1 h
  have:=ih _ _ h
  simp at this; omega
def Jcs (b:Book) (ls:List Int) (l:List (List Int)):Best:=(l.map fun l=>(l,Jdh b ls l)).foldl updB ([],-1)
theorem Jl8 (hs:SoundB b) (hl:JaL b ls):Jb3 b ls=Jcs b ls (JfH b ls):=by
 have h0:pOK b ls []:=⟨fun i hi=>absurd hi (by simp),fun c hc=>by
  have:=(hs.ctr c hc).2.2.1
  show 0<=_
  omega⟩
 rw [JmV hs hl,← JoC (b:=b) (ls:=ls),Jl7 hl _ _ h0 (by simp)]
 unfold Jcs JfH
 congr 2
 refine List.filter_congr fun x hx => ?_
 have hx:=JmZ _ _ _ hx
 rw [Bool.eq_iff_iff,decide_eq_true_eq,Jhl]
 constructor
 ·intro h; exact ⟨by simpa using hx,h⟩
 ·exact fun h=>h.2
end Go.Sh
namespace Go.Sh
open Go.Ab
variable {b:Book} {ls:List Int}
def JcY (b:Book):Nat->List (List Int)
 | 0=>[[]]
 | m + 1=>(bysB b).flatMap fun y=>(JcY b m).map (y :: ·)
theorem Jqa:∀ (m:Nat) (l:List Int),Jch b m l=(JcY b m).map (l ++ ·):=by
 intro m
 induction m with
 | zero=>intro l; simp [Jch,JcY]
 | succ m ih =>
  intro l
  rw [Jch,JcY,Jir]
  refine Jdw fun y _ => ?_
  rw [ih,List.map_map]
  refine List.map_congr_left fun x _ => ?_
  simp
theorem Jis (m:Nat):Jch b m []=JcY b m:=by rw [Jqa]; simp
theorem Jn0 {y:Int}:y ∈ bysB b ↔ -1<=y/\y < b.ctrs.length:=by
 unfold bysB
 rw [List.mem_map]
 constructor
 ·rintro ⟨k,hk,rfl⟩; rw [List.mem_range] at hk; omega
 ·intro h; exact ⟨(y + 1).toNat,by rw [List.mem_range]; omega,by omega⟩
theorem mem_R:∀ {m:Nat} {l:List Int},l ∈ JcY b m ↔ l.length=m /\ ∀ y,y ∈ l -> -1<=y/\y < b.ctrs.length:=by
 intro m
 induction m with
 | zero =>
  intro l
  rw [JcY,List.mem_singleton]
  constructor
  ·rintro rfl; exact ⟨rfl,by simp⟩
  ·rintro ⟨h,_⟩; exact List.eq_nil_of_length_eq_zero h
 | succ m ih =>
  intro l
  rw [JcY,List.mem_flatMap]
  constructor
  ·rintro ⟨y,hy,h⟩
   obtain ⟨x,hx,rfl⟩:=List.mem_map.1 h
   have:=ih.1 hx
   refine ⟨by simp [this.1],fun z hz => ?_⟩
   rcases List.mem_cons.1 hz with rfl | hz
   ·exact Jn0.1 hy
   ·exact this.2 z hz
  ·rintro ⟨h1,h2⟩
   match l,h1,h2 with
   | y :: l,h1,h2=>exact ⟨y,Jn0.2 (h2 y (by simp)),List.mem_map.2 ⟨l,ih.2 ⟨by simpa using h1,fun z hz=>h2 z (by simp [hz])⟩,rfl⟩⟩
theorem JoE:(bysB b).Pairwise (· < ·):=by
 unfold bysB
 rw [List.pairwise_map]
 refine List.pairwise_lt_range.imp ?_
 intro a c h; omega
theorem R_sort:∀ m:Nat,(JcY b m).Pairwise fun x y=>Jbz x y=true:=by
 intro m
 induction m with
 | zero=>simp [JcY]
 | succ m ih =>
  rw [JcY,List.pairwise_flatMap]
  refine ⟨fun y _ => ?_,?_⟩
  ·rw [List.pairwise_map]
   refine ih.imp fun {a c} h => ?_
   simp only [Jbz]; rw [if_pos trivial]; exact h
  ·refine JoE.imp fun {a c} h x hx y hy => ?_
   obtain ⟨x,_,rfl⟩:=List.mem_map.1 hx
   obtain ⟨y,_,rfl⟩:=List.mem_map.1 hy
   simp only [Jbz]
   rw [if_neg (by omega)]; exact decide_eq_true h
theorem Jpe {l:List Int} (h:Jcy b ls l=true):l ∈ JcY b (stds b).length:=by
 have h:=Jhl.1 h
 refine mem_R.2 ⟨h.1,fun y hy => ?_⟩
 obtain ⟨i,hi,rfl⟩:=List.getElem_of_mem hy
 have:=h.2.1 i hi
 rw [Jaf l 0 hi] at this
 unfold JfF at this
 simp only [Bool.or_eq_true,decide_eq_true_eq,Bool.and_eq_true] at this
 rcases this with h | h
 ·omega
 ·have:=Je7 h.1; omega
theorem Jea {l:List Int}:l ∈ JfH b ls ↔ Jcy b ls l=true:=by
 unfold JfH
 rw [Jis,List.mem_filter]
 exact ⟨fun h=>h.2,fun h=>⟨Jpe h,h⟩⟩
theorem Jl9:(JfH b ls).Pairwise fun x y=>Jbz x y=true:=by
 unfold JfH
 rw [Jis]
 exact (R_sort _).filter _
theorem Jqb (hs:SoundB b) (hl:JaL b ls) (l:List Int):∀ n:Nat,0<=JcG b ls l n/\JcG b ls l n<=81 * n:=by
 intro n
 induction n with
 | zero=>exact ⟨Int.le_refl _,Int.le_refl _⟩
 | succ n ih =>
  rw [JcG]
  have:=Je8 hs hl (sdA b n)
  split <;> omega
theorem Jqc (hs:SoundB b) (l:List Int):∀ n:Nat,n<=b.ctrs.length->0<=JcH b l n/\JcH b l n<=99 * n:=by
 intro n
 induction n with
 | zero=>intro _; exact ⟨Int.le_refl _,Int.le_refl _⟩
 | succ n ih =>
  intro h
  rw [JcH]
  have:=(hs.ctr n (by omega)).2.2.2
  have:=ih (by omega)
  split <;> omega
theorem JfI {s:Sday}:s ∈ stds b ↔ (0<=s.day/\s.day < 14)/\(0<=s.ad/\s.ad < b.lines.length)/\Jcg b s.ad s.day=true:=by
 unfold stds Jka
 rw [List.mem_flatMap]
 constructor
 ·rintro ⟨d,hd,h⟩
  rw [List.mem_range] at hd
  obtain ⟨a,ha,h⟩:=List.mem_filterMap.1 h
  rw [List.mem_range] at ha
  split at h
  ·rename_i e
   cases h
   exact ⟨by simp only; omega,by simp only; omega,e⟩
  ·cases h
 ·rintro ⟨h1,h2,h3⟩
  refine ⟨s.day.toNat,by rw [List.mem_range]; omega,List.mem_filterMap.2 ⟨s.ad.toNat,by rw [List.mem_range]; omega,?_⟩⟩
  have e1:((s.day.toNat:Nat):Int)=s.day:=by omega
  have e2:((s.ad.toNat:Nat):Int)=s.ad:=by omega
  rw [e1,e2,if_pos h3]
def ltS (x y:Sday):Prop:=x.day < y.day ∨ (x.day=y.day/\x.ad < y.ad)
theorem Jki:(stds b).Pairwise ltS:=by
 unfold stds
 rw [List.pairwise_flatMap]
 refine ⟨fun d _ => ?_,?_⟩
 ·unfold Jka
  rw [List.pairwise_filterMap]
  refine List.pairwise_lt_range.imp fun {a c} h x hx y hy => ?_
  split at hx
  ·cases hx
   split at hy
   ·cases hy; right; exact ⟨rfl,by simp only; omega⟩
   ·cases hy
  ·cases hx
 ·refine List.pairwise_lt_range.imp fun {a c} h x hx y hy => ?_
  obtain ⟨p,_,h1⟩:=List.mem_filterMap.1 hx
  obtain ⟨q,_,h2⟩:=List.mem_filterMap.1 hy
  split at h1
  ·cases h1
   split at h2
   ·cases h2; left; simp only; omega
   ·cases h2
  ·cases h1
theorem Jju (x:Sday):¬ ltS x x:=by unfold ltS; omega
theorem Jit:(stds b).Nodup:=Jki.imp fun {a c} h e=>by subst e; exact Jju _ h
theorem Jn1:(stds b).length<=b.shown.length:=by
 have h:∀ x,x ∈ stds b->x ∈ b.shown.map fun s=>(⟨s.ad,s.day⟩:Sday):=by
  intro x hx
  have h:=(JfI.1 hx).2.2
  unfold Jcg at h
  obtain ⟨s,hs,h⟩:=List.any_eq_true.1 h
  simp only [Bool.and_eq_true,decide_eq_true_eq] at h
  refine List.mem_map.2 ⟨s,hs,?_⟩
  rw [h.1,h.2]
 have:=(Jit (b:=b)).length_le_of_subset h
 simpa using this
theorem Jn2 (hs:SoundB b) (hl:JaL b ls) (l:List Int):0<=Jdh b ls l/\Jdh b ls l<=783:=by
 have h1:=Jqb hs hl l (stds b).length
 have h2:=Jqc hs l b.ctrs.length (Nat.le_refl _)
 have h3:=Jn1 (b:=b)
 have h4:=hs.shown
 have h5:=hs.ctrs
 unfold Jdh
 omega
def allS (b:Book):List Int:=List.replicate (stds b).length (-1)
theorem Jhm {i:Nat} (h:i < (stds b).length):(allS b).getD i 0 = -1:=by
 unfold allS
 rw [Jaf _ _ (by simpa using h),List.getElem_replicate]
theorem JoF (c:Nat):∀ n,n<=(stds b).length->JcT b ls (allS b) c n=0:=by
 intro n
 induction n with
 | zero=>intro _; rfl
 | succ n ih =>
  intro h
  rw [JcT,Jhm (by omega),if_neg (by omega)]; exact ih (by omega)
theorem Jn3 (hs:SoundB b):Jcy b ls (allS b)=true:=by
 refine Jhl.2 ⟨by simp [allS],fun i hi => ?_,fun c hc => ?_⟩
 ·rw [Jhm (by simpa [allS] using hi)]; rfl
 ·rw [JoF c _ (by simp [allS])]; exact (hs.ctr c hc).2.2.1.1
structure IsBest (b:Book) (ls:List Int) (x:Best):Prop where
 bill:Jcy b ls x.1=true
 cost:x.2=Jdh b ls x.1
 least:∀ l,Jcy b ls l=true->x.2<=Jdh b ls l
 first:∀ l,Jcy b ls l=true->Jdh b ls l=x.2->l=x.1 ∨ Jbz x.1 l=true
theorem Jla (hs:SoundB b) (hl:JaL b ls):∀ L:List (List Int),L.Pairwise (fun x y=>Jbz x y=true)->(L = []/\Jcs b ls L=([],-1)) ∨ ((Jcs b ls L).1 ∈ L/\(Jcs b ls L).2=Jdh b ls (Jcs b ls L).1 /\ ∀ l,l ∈ L->(Jcs b ls L).2<=Jdh b ls l/\(Jdh b ls l=(Jcs b ls L).2->l=(Jcs b ls L).1 ∨ Jbz (Jcs b ls L).1 l=true)):=by
 intro L
 induction L using Jim with
 | h0=>intro _; exact .inl ⟨rfl,rfl⟩
 | h1 L y ih =>
  intro hp
  right
  rw [List.pairwise_append] at hp
  have hp3:=fun a ha=>hp.2.2 a ha y (by simp)
  have hsn:Jcs b ls (L ++ [y])=updB (Jcs b ls L) (y,Jdh b ls y):=by
   unfold Jcs
   rw [List.map_append,List.foldl_append]; rfl
  rw [hsn]
  rcases ih hp.1 with ⟨rfl,e⟩ | ⟨h1,h2,h3⟩
  ·rw [e]
   have:updB ([],-1) (y,Jdh b ls y)=(y,Jdh b ls y):=by
    unfold updB; rw [if_neg (by simp)]
   rw [this]
   refine ⟨by simp,rfl,fun l hl => ?_⟩
   have:l=y:=by simpa using hl
   subst this; exact ⟨Int.le_refl _,fun _ => .inl rfl⟩
  ·have hc:=(Jn2 hs hl (Jcs b ls L).1).1
   unfold updB
   simp only [Bool.and_eq_true,decide_eq_true_eq]
   split
   ·rename_i h
    refine ⟨List.mem_append_left _ h1,h2,fun l hl => ?_⟩
    rcases List.mem_append.1 hl with hl | hl
    ·exact h3 l hl
    ·have:l=y:=by simpa using hl
     subst this
     exact ⟨h.2,fun _ => .inr (hp3 _ h1)⟩
   ·rename_i h
    refine ⟨by simp,rfl,fun l hl => ?_⟩
    rcases List.mem_append.1 hl with hl | hl
    ·have:=(h3 l hl).1
     simp only
     exact ⟨by omega,fun h=>by omega⟩
    ·have:l=y:=by simpa using hl
     subst this; exact ⟨Int.le_refl _,fun _ => .inl rfl⟩
theorem Jn4 (hs:SoundB b) (hl:JaL b ls):IsBest b ls (Jb3 b ls):=by
 rw [Jl8 hs hl]
 rcases Jla hs hl (JfH b ls) Jl9 with ⟨h,_⟩ | ⟨h1,h2,h3⟩
 ·have:=Jea.2 (Jn3 (b:=b) (ls:=ls) hs)
  rw [h] at this; cases this
 ·exact ⟨Jea.1 h1,h2,fun l hl=>(h3 l (Jea.2 hl)).1,fun l hl=>(h3 l (Jea.2 hl)).2⟩
theorem Jjv (hs:SoundB b) (hl:JaL b ls):0<=(Jb3 b ls).2/\(Jb3 b ls).2<=783:=by
 rw [(Jn4 hs hl).cost]; exact Jn2 hs hl _
end Go.Sh
namespace Go.Sh
open Go.Ab
variable {b o:Book} {ls ms:List Int}
end Go.Sh
namespace Go.Sh
open Go.Ab
variable {b o:Book} {ls ms:List Int}
theorem Jqd {l:List Int} (h:Jcy b ls l=true) {y:Int} (hy:y ∈ l) : -1<=y/\y < b.ctrs.length:=(mem_R.1 (Jpe h)).2 y hy
end Go.Sh
namespace Go.Sh
open Go.Ab
variable {b o:Book} {ls ms:List Int}
def Jiu (b:Book) (ls:List Int):Int:=((stds b).map (Jb1 b ls)).foldl (· + ·) 0
theorem Jn5 (l:List Int):∀ a:Int,l.foldl (· + ·) a=a + l.foldl (· + ·) 0:=by
 induction l with
 | nil=>intro a; show a=a + 0; omega
 | cons x l ih=>intro a; rw [List.foldl_cons,List.foldl_cons,ih,ih (0 + x)]; omega
theorem JoG:∀ n,n<=(stds b).length->JcG b ls (allS b) n=(((stds b).take n).map (Jb1 b ls)).foldl (· + ·) 0:=by
 intro n
 induction n with
 | zero=>intro _; rfl
 | succ n ih =>
  intro h
  rw [JcG,Jhm (by omega),if_pos rfl,ih (by omega),JaV _ default (by omega),List.map_append,List.foldl_append]
  rfl
theorem JoH:∀ n,JcH b (allS b) n=0:=by
 intro n
 induction n with
 | zero=>rfl
 | succ n ih =>
  rw [JcH,ih,if_neg]
  rw [JcI]
  intro h
  have:=(List.mem_replicate.1 h).2
  omega
theorem Jn6:Jdh b ls (allS b)=Jiu b ls:=by
 unfold Jdh Jiu
 rw [JoG _ (Nat.le_refl _),JoH,List.take_length]; omega
theorem Jn7 (hs:SoundB b) (hl:JaL b ls) (h:b.ctrs = []):(Jb3 b ls).2=Jiu b ls:=by
 have h1:=Jn4 hs hl
 have:(Jb3 b ls).1=allS b:=by
  have h2:=Jhl.1 h1.bill
  refine List.ext_getElem (by rw [h2.1]; simp [allS]) fun i hi hi2 => ?_
  have:=Jqd h1.bill (List.getElem_mem hi)
  rw [h] at this
  have e:(allS b)[i] = -1:=List.getElem_replicate _
  rw [e]
  simp at this; omega
 rw [h1.cost,this,Jn6]
end Go.Sh
namespace Go.Sh
open Go.Ab
variable {b o:Book} {ls ms:List Int}
theorem Jci (h:JaR b=true):SoundB b:=by
 unfold JaR JdH at h
 simp only [Bool.and_eq_true,decide_eq_true_eq,JaB] at h
 obtain ⟨⟨⟨⟨⟨⟨⟨h1,h2⟩,h3⟩,h4⟩,h5⟩,h6⟩,h7⟩,h8⟩:=h
 refine { lines:=by omega,shown:=by omega,ctrs:=by omega,rate:=by omega,line:=fun i hi => ?_,show_:=fun i hi => ?_,ctr:=fun i hi => ?_ }
 ·have:=Jde default h6 hi
  unfold okLn Jay at this
  simp only [Bool.and_eq_true,JaB] at this
  unfold lnB; omega
 ·rw [List.all_eq_true] at h7
  have:=h7 i (List.mem_range.2 hi)
  unfold JcS isAd at this
  simp only [Bool.and_eq_true,JaB] at this
  omega
 ·have:=Jde default h8 hi
  unfold JdI at this
  simp only [Bool.and_eq_true,JaB] at this
  unfold ctB; omega
def Jg5 (b:Book) (ls:List Int):Bool:=decide (ls.length=b.lines.length) && ls.all fun n=>Ja1 n 0 9
theorem Jeb (h:Jg5 b ls=true):JaL b ls:=by
 unfold Jg5 at h
 simp only [Bool.and_eq_true,decide_eq_true_eq] at h
 refine ⟨h.1,fun i => ?_⟩
 by_cases hi:i < ls.length
 ·exact JaB.1 (Jde 0 h.2 hi)
 ·rw [JbY _ _ (by omega)]; omega
def Jbq (b:Book):List Int:=b.lines.map (·.lo)
def JaS (b:Book):List Int:=b.lines.map (·.hi)
theorem Jkj {i:Nat} (h:i < b.lines.length):(Jbq b).getD i 0=(lnB b i).lo:=by
 unfold Jbq lnB
 rw [Jaf _ _ (by simpa using h),Jaf _ _ h,List.getElem_map]
theorem Jiv {i:Nat} (h:i < b.lines.length):(JaS b).getD i 0=(lnB b i).hi:=by
 unfold JaS lnB
 rw [Jaf _ _ (by simpa using h),Jaf _ _ h,List.getElem_map]
theorem Jn8 (hs:SoundB b):JaL b (Jbq b):=by
 refine ⟨by simp [Jbq],fun i => ?_⟩
 by_cases hi:i < b.lines.length
 ·rw [Jkj hi]; have:=hs.line i hi; omega
 ·rw [JbY _ _ (by simp [Jbq]; omega)]; omega
theorem Jlb (hs:SoundB b):JaL b (JaS b):=by
 refine ⟨by simp [JaS],fun i => ?_⟩
 by_cases hi:i < b.lines.length
 ·rw [Jiv hi]; have:=hs.line i hi; omega
 ·rw [JbY _ _ (by simp [JaS]; omega)]; omega
def Jlc (b:Book):Span:=⟨(Jb3 b (Jbq b)).2,(Jb3 b (JaS b)).2⟩
end Go.Sh
namespace Go.Sh
open Go.Ab
variable {b o:Book} {ls ms:List Int}
def widS (s:Span):Nat:=(s.hi - s.lo + 1).toNat
def RisS (ss:List Span):Prop := ∀ q,q < ss.length->(ss.getD q default).lo<=(ss.getD q default).hi
theorem RisS.tail {s:Span} {ss:List Span} (h:RisS (s :: ss)):RisS ss:=fun q hq=>h (q + 1) (Nat.succ_lt_succ hq)
theorem RisS.head {s:Span} {ss:List Span} (h:RisS (s :: ss)):0 < widS s/\(widS s:Int)=s.hi - s.lo + 1:=by
 have:s.lo<=s.hi:=h 0 (Nat.succ_pos _)
 unfold widS; omega
end Go.Sh
namespace Go.Sh
open Go.Ab
section
variable {α:Type} [DecidableEq α]
def Jcj (d:α) (l:List α) (i:Nat):Bool:=decide (i=0) || !decide (l.getD i d=l.getD (i - 1) d)
def cpTo (d:α) (l:List α) (n:Nat):List α:=((List.range n).filter (Jcj d l)).map fun i=>l.getD i d
def cpL (d:α) (l:List α):List α:=cpTo d l l.length
theorem Jkk {d:α} {l:List α} {n:Nat} (h:Jcj d l n=true):cpTo d l (n + 1)=cpTo d l n ++ [l.getD n d]:=by
 unfold cpTo; rw [List.range_succ,List.filter_append,List.map_append,List.filter_cons,if_pos h]; rfl
theorem Jiw {d:α} {l:List α} {n:Nat} (h:Jcj d l n=false):cpTo d l (n + 1)=cpTo d l n:=by
 unfold cpTo; rw [List.range_succ,List.filter_append,List.map_append,List.filter_cons,if_neg (by rw [h]; simp)]; simp
theorem Jkl (d:α) (l:List α) (n:Nat):(cpTo d l n).length<=n:=by
 unfold cpTo; rw [List.length_map]; exact Nat.le_trans (List.length_filter_le _ _) (by rw [List.length_range]; omega)
theorem Jgx {d:α} {l:List α}:∀ {n:Nat},n<=l.length->(∀ j,j < n->Jcj d l j=true)->cpTo d l n=l.take n:=by
 intro n
 induction n with
 | zero=>intro _ _; rfl
 | succ n ih=>intro h h1; rw [Jkk (h1 n (by omega)),ih (by omega) (fun j hj=>h1 j (by omega)),Go.Ab.JaV _ d (by omega)]
theorem Jkm {d:α} {l:List α} (h:∀ j,j < l.length->Jcj d l j=true):cpL d l=l:=by
 unfold cpL; rw [Jgx (Nat.le_refl _) h,List.take_length]
def rowK (d:α) (l:List α) (n q:Nat):α:=if q < (cpTo d l n).length then (cpTo d l n).getD q d else l.getD q d
theorem JoI {d:α} {l:List α} {n q:Nat} (h:n<=q):rowK d l n q=l.getD q d:=by
 unfold rowK; rw [if_neg (by have:=Jkl d l n; omega)]
theorem Jn9 {d:α} {l:List α} {n q:Nat} (h:(cpTo d l n).length<=q):rowK d l n q=l.getD q d:=by
 unfold rowK; rw [if_neg (by omega)]
theorem rowK_f {d:α} {l:List α} {n:Nat} (h:Jcj d l n=false) (q:Nat):rowK d l (n + 1) q=rowK d l n q:=by unfold rowK; rw [Jiw h]
theorem rowK_t {d:α} {l:List α} {n:Nat} (h:Jcj d l n=true) (q:Nat):rowK d l (n + 1) q=if q=(cpTo d l n).length then l.getD n d else rowK d l n q:=by
 unfold rowK
 rw [Jkk h,List.length_append,List.length_singleton,Go.Ab.Jbf]
 by_cases h1:q < (cpTo d l n).length
 ·rw [if_pos (by omega),if_pos h1,if_neg (by omega),if_pos h1]
 ·by_cases h2:q=(cpTo d l n).length
  ·subst h2; rw [if_pos (by omega),if_neg h1,if_pos rfl,Nat.sub_self]; rfl
  ·rw [if_neg (by omega),if_neg h2,if_neg h1]
theorem JbX {d:α} {l:List α} {i:Nat} (h:0 < i):Jcj d l i = !decide (l.getD i d=l.getD (i - 1) d):=by
 unfold Jcj; rw [decide_eq_false (by omega)]; rfl
theorem Jqe {d:α} {l:List α} {lt:α->α->Prop} (tr:∀ a b c,lt a b->lt b c->lt a c) (hs:∀ i j,i < j->j < l.length->lt (l.getD i d) (l.getD j d) ∨ l.getD i d=l.getD j d):(cpL d l).Pairwise lt:=by
 unfold cpL cpTo
 rw [List.pairwise_map]
 have h1:((List.range l.length).filter (Jcj d l)).Pairwise (· < ·):=List.pairwise_lt_range.filter _
 refine h1.imp_of_mem fun {i j} hi hj hij => ?_
 have hj':=List.mem_filter.1 hj
 have hl:=List.mem_range.1 hj'.1
 have hn:=hj'.2
 rw [JbX (by omega)] at hn
 simp only [Bool.not_eq_true',decide_eq_false_iff_not] at hn
 have h2:lt (l.getD (j - 1) d) (l.getD j d):=by
  rcases hs (j - 1) j (by omega) hl with h | h
  ·exact h
  ·exact absurd h.symm hn
 by_cases e:i=j - 1
 ·rw [e]; exact h2
 ·rcases hs i (j - 1) (by omega) (by omega) with h | h
  ·exact tr _ _ _ h h2
  ·rw [h]; exact h2
theorem cp_mem {d:α} {l:List α} {x:α}:x ∈ cpL d l ↔ x ∈ l:=by
 unfold cpL cpTo
 rw [List.mem_map]
 constructor
 ·rintro ⟨i,hi,rfl⟩
  exact Jbc l d (List.mem_range.1 (List.mem_filter.1 hi).1)
 ·intro hx
  obtain ⟨i,hi,e⟩:=List.getElem_of_mem hx
  rw [← Jaf l d hi] at e
  induction i with
  | zero=>exact ⟨0,List.mem_filter.2 ⟨List.mem_range.2 hi,rfl⟩,e⟩
  | succ i ih =>
   cases h:Jcj d l (i + 1) with
   | true=>exact ⟨i + 1,List.mem_filter.2 ⟨List.mem_range.2 hi,h⟩,e⟩
   | false =>
    rw [JbX (by omega)] at h
    simp only [Bool.not_eq_false',decide_eq_true_eq] at h
    exact ih (by omega) (by rw [← e,h]; rfl)
end
def cmpD (x y:Sday):Int:=if x.day - y.day=0 then x.ad - y.ad else x.day - y.day
theorem Jpf {x y:Sday}:cmpD x y < 0 ↔ ltS x y:=by
 unfold cmpD ltS
 split <;> omega
theorem JfJ (a b c:Sday) (h1:ltS a b) (h2:ltS b c):ltS a c:=by unfold ltS at *; omega
theorem JoJ {a b:Sday} (h:¬ ltS b a):ltS a b ∨ a=b:=by
 unfold ltS at *
 by_cases e:a.day=b.day/\a.ad=b.ad
 ·right; cases a; cases b; simp only at e; rw [e.1,e.2]
 ·left; omega
abbrev sdG (l:List Sday) (i:Nat):Sday:=l.getD i default
def swL (l:List Sday) (j:Nat):List Sday:=(l.set j (sdG l (j - 1))).set (j - 1) (sdG l j)
def bub:Nat->List Sday->List Sday
 | 0,l=>l
 | j + 1,l=>if decide (cmpD (sdG l (j + 1)) (sdG l j) < 0) then bub j (swL l (j + 1)) else l
def JbP (l:List Sday):Nat->List Sday
 | 0=>l
 | n + 1=>bub (n + 1) (JbP l n)
theorem Jeu (l:List Sday) (j:Nat):(swL l j).length=l.length:=by simp [swL]
theorem JdK {l:List Sday} {j q:Nat} (hj:0 < j) (hl:j < l.length) (hq:q < l.length):sdG (swL l j) q=if q=j then sdG l (j - 1) else if q=j - 1 then sdG l j else sdG l q:=by
 unfold sdG swL
 rw [Jaf _ _ (by simpa using hq),List.getElem_set,List.getElem_set]
 by_cases h1:q=j
 ·subst h1; rw [if_neg (by omega),if_pos rfl,if_pos rfl]
 ·rw [if_neg h1]
  by_cases h2:q=j - 1
  ·rw [if_pos h2.symm,if_pos h2]
  ·rw [if_neg (fun h=>h2 h.symm),if_neg (fun h=>h1 h.symm),if_neg h2,Jaf _ _ hq]
theorem Jna {l:List Sday} {j:Nat} (hj:0 < j) (hl:j < l.length) (x:Sday):x ∈ swL l j ↔ x ∈ l:=by
 have key:∀ m:List Sday,x ∈ m ↔ ∃ q,q < m.length/\sdG m q=x:=by
  intro m
  constructor
  ·intro h; obtain ⟨q,hq,e⟩:=List.getElem_of_mem h; exact ⟨q,hq,by unfold sdG; rw [Jaf _ _ hq]; exact e⟩
  ·rintro ⟨q,hq,rfl⟩; exact Jbc m _ hq
 rw [key,key,Jeu]
 constructor
 ·rintro ⟨q,hq,e⟩
  rw [JdK hj hl hq] at e
  by_cases h1:q=j
  ·rw [if_pos h1] at e; exact ⟨j - 1,by omega,e⟩
  ·rw [if_neg h1] at e
   by_cases h2:q=j - 1
   ·rw [if_pos h2] at e; exact ⟨j,hl,e⟩
   ·rw [if_neg h2] at e; exact ⟨q,hq,e⟩
 ·rintro ⟨q,hq,e⟩
  by_cases h1:q=j
  ·subst h1; exact ⟨q - 1,by omega,by rw [JdK hj hl (by omega),if_neg (by omega),if_pos rfl]; exact e⟩
  ·by_cases h2:q=j - 1
   ·subst h2; exact ⟨j,hl,by rw [JdK hj hl hl,if_pos rfl]; exact e⟩
   ·exact ⟨q,hq,by rw [JdK hj hl hq,if_neg h1,if_neg h2]; exact e⟩
theorem Jqf:∀ (j:Nat) (l:List Sday),(bub j l).length=l.length:=by
  intro j
  induction j with
  | zero=>intro l; rfl
  | succ j ih => intro l; rw [bub]; split; · rw [ih, Jeu]
                 · rfl
theorem Jqg (x:Sday):∀ (j:Nat) (l:List Sday),j < l.length->(x ∈ bub j l ↔ x ∈ l):=by
 intro j
 induction j with
 | zero=>intro l _; rfl
 | succ j ih =>
  intro l h
  rw [bub]
  split
  ·rw [ih _ (by rw [Jeu]; omega),Jna (by omega) h]
  ·rfl
theorem Jnb {a b c:Sday} (h1:ltS a b ∨ a=b) (h2:ltS b c ∨ b=c):ltS a c ∨ a=c:=by
 rcases h1 with h1 | rfl
 ·rcases h2 with h2 | rfl
  ·exact .inl (JfJ _ _ _ h1 h2)
  ·exact .inl h1
 ·exact h2
def InO (l:List Sday) (j n:Nat):Prop := ∀ p q,p < q->q < n->q ≠ j->ltS (sdG l p) (sdG l q) ∨ sdG l p=sdG l q
theorem JoK:∀ (j:Nat) (l:List Sday) (n:Nat),j < n->n<=l.length->InO l j n -> ∀ p q,p < q->q < n->ltS (sdG (bub j l) p) (sdG (bub j l) q) ∨ sdG (bub j l) p=sdG (bub j l) q:=by
 intro j
 induction j with
 | zero=>intro l n h1 h2 h p q hpq hq; exact h p q hpq hq (by omega)
 | succ j ih =>
  intro l n h1 h2 h p q hpq hq
  rw [bub]
  by_cases hc:cmpD (sdG l (j + 1)) (sdG l j) < 0
  ·rw [if_pos (by simpa using hc)]
   have hlt:=Jpf.1 hc
   refine ih _ n (by omega) (by rw [Jeu]; exact h2) (fun p q hpq hq hne => ?_) p q hpq hq
   have gp:=JdK (l:=l) (j:=j + 1) (q:=p) (by omega) (by omega) (by omega)
   have gq:=JdK (l:=l) (j:=j + 1) (q:=q) (by omega) (by omega) (by omega)
   rw [Nat.add_sub_cancel] at gp gq
   rw [gp,gq]
   by_cases e1:q=j + 1
   ·rw [if_pos e1,if_neg (by omega)]
    by_cases e2:p=j
    ·rw [if_pos e2]; exact .inl hlt
    ·rw [if_neg e2]; exact h p j (by omega) (by omega) (by omega)
   ·rw [if_neg e1,if_neg hne]
    by_cases e2:p=j + 1
    ·rw [if_pos e2]; exact h j q (by omega) hq e1
    ·rw [if_neg e2]
     by_cases e3:p=j
     ·rw [if_pos e3]; exact h (j + 1) q (by omega) hq e1
     ·rw [if_neg e3]; exact h p q hpq hq e1
  ·rw [if_neg (by simpa using hc)]
   by_cases e1:q=j + 1
   ·subst e1
    have h3:ltS (sdG l j) (sdG l (j + 1)) ∨ sdG l j=sdG l (j + 1):=JoJ fun h=>hc (Jpf.2 h)
    by_cases e2:p=j
    ·rw [e2]; exact h3
    ·exact Jnb (h p j (by omega) (by omega) (by omega)) h3
   ·exact h p q hpq hq e1
theorem JfK (l:List Sday):∀ n,(JbP l n).length=l.length:=by
 intro n
 induction n with
 | zero=>rfl
 | succ n ih=>rw [JbP,Jqf,ih]
theorem Jnc (l:List Sday) (x:Sday):∀ n,n < l.length->(x ∈ JbP l n ↔ x ∈ l):=by
 intro n
 induction n with
 | zero=>intro _; rfl
 | succ n ih=>intro h; rw [JbP,Jqg x _ _ (by rw [JfK]; exact h),ih (by omega)]
theorem JoL (l:List Sday):∀ n,n < l.length -> ∀ p q,p < q->q < n + 1->ltS (sdG (JbP l n) p) (sdG (JbP l n) q) ∨ sdG (JbP l n) p=sdG (JbP l n) q:=by
 intro n
 induction n with
 | zero=>intro _ p q h1 h2; omega
 | succ n ih =>
  intro h
  rw [JbP]
  exact JoK (n + 1) (JbP l n) (n + 1 + 1) (by omega) (by rw [JfK]; exact h) fun p q h1 h2 h3=>ih (by omega) p q h1 (by omega)
def Jbx (l:List Sday):List Sday:=JbP l (l.length - 1)
theorem JfL (l:List Sday):(Jbx l).length=l.length:=JfK _ _
def rawD (b:Book):List Sday:=b.shown.map fun s=>⟨s.ad,s.day⟩
theorem Jnd {b:Book} (hs:SoundB b):cpL default (Jbx (rawD b))=stds b:=by
 have hne:∀ x,x ∈ Jbx (rawD b) ↔ x ∈ rawD b:=by
  intro x
  unfold Jbx
  rcases Nat.eq_zero_or_pos (rawD b).length with h | h
  ·rw [h]; rfl
  ·exact Jnc _ _ _ (by omega)
 have hsr:(cpL default (Jbx (rawD b))).Pairwise ltS:=by
  refine Jqe JfJ fun i j hij hj => ?_
  rw [JfL] at hj
  exact JoL (rawD b) ((rawD b).length - 1) (by omega) i j hij (by omega)
 have hm:∀ x,x ∈ cpL default (Jbx (rawD b)) ↔ x ∈ stds b:=by
  intro x
  rw [cp_mem,hne,JfI]
  unfold rawD Jcg
  rw [List.mem_map,List.any_eq_true]
  constructor
  ·rintro ⟨s,h,rfl⟩
   obtain ⟨i,hi,e⟩:=List.getElem_of_mem h
   have h1:=hs.show_ i hi
   unfold shB at h1
   rw [Jaf _ _ hi,e] at h1
   refine ⟨⟨by simp only; omega,by simp only; omega⟩,⟨by simp only; omega,by simp only; omega⟩,s,h,by simp⟩
  ·rintro ⟨_,_,s,h,hd⟩
   simp only [Bool.and_eq_true,decide_eq_true_eq] at hd
   exact ⟨s,h,by cases x; simp only at hd; rw [hd.1,hd.2]⟩
 refine List.Perm.eq_of_pairwise (le:=ltS) (fun x y _ _ h1 h2=>absurd (JfJ _ _ _ h1 h2) (Jju x)) hsr Jki ?_
 refine (List.perm_ext_iff_of_nodup ?_ Jit).2 hm
 exact hsr.imp fun {a c} h e=>by subst e; exact Jju _ h
end Go.Sh
namespace Go.Sh
open Go.Ab
def okD (x:Sday):Prop:=(-1000<=x.ad/\x.ad<=1000) /\ -1000<=x.day/\x.day<=1000
def okDs (l:List Sday):Prop := ∀ q,q < l.length->okD (sdG l q)
end Go.Sh
namespace Go.Sh
open Go Go.Ab Go.En
def endK (ws:List Sday) (q:Nat):List AV:=if q < (cpL default ws).length then JaJ ((cpL default ws).getD q default) else [iv 0,iv 0]
theorem Jne {ws:List Sday} {q:Nat} (h:q < (cpL default ws).length):endK ws q=JaJ ((cpL default ws).getD q default):=if_pos h
theorem Jqh {ws:List Sday} {q:Nat} (h:¬ q < (cpL default ws).length):endK ws q = [iv 0,iv 0]:=if_neg h
end Go.Sh
namespace Go.Ab
open Go Go.RowKit Go.Proofs Go.Sh Go.En
def s73 (n:Int):CallSpec:={ args:=[.lit (.int .u64 n)],pre:=0<=n/\n<=9223372036854775807,res := .any }
theorem t73 (n:Int):Ja4 Tryz.prog 73 (s73 n):=by
 refine ⟨Tryz.call73,fun hp E w vs _ hok hlen hrel _ => ?_⟩
 obtain ⟨v,rfl⟩:∃ v,vs = [v]:=by
  match vs,hlen with
  | [v],_=>exact ⟨v,rfl⟩
 have h0:=hrel 0
 change Rel E true (.lit (.int .u64 n)) v at h0
 cases h0
 refine (Go.Proofs.Any.bits_Len { Tryz.lays189 with } n w hp.1 (by have:=hp.2; omega)).mono ?_
 rintro e w' ⟨rfl,rfl⟩
 exact ⟨_,E,rfl,hok,.any _,fun _ _=>⟨rfl,rfl⟩⟩
def s40g (l:List Int):CallSpec:={ args:=[Ja6 l],res:=iv ((l.find? fun n => !decide (n=0)).getD 0),pre:=l.length<=65536 }
def h40g (l:List Int):Hint:={ X:=Nat,M:=fun i=>[(8,iv i)],I:=fun i=>i<=l.length /\ ∀ j,j < i->l.getD j 0=0,mu:=fun i=>l.length - i,x0:=(0:Nat),nx:=fun i=>i + 1 }
def s54 (x y:Sday):CallSpec:={ args:=[JmW x,JmW y],res:=iv (cmpD x y),pre:=okD x/\okD y }
def c54 (x y:Sday):CallSpec:=s40g [x.day - y.day,x.ad - y.ad]
def cmpF:AV := .clo 54 []
def focB:CallSpec:={ args:=[],res := .any }
abbrev rowG (n:Nat) (l:List Sday):OB := .vec 110 2 n (fun i=>JaJ (sdG l i))
def io81 (ws:List Sday):IoSpec:={ args:=[.vec 0,iv 0,iv ws.length,cmpF],pre:=ws.length<=12/\okDs ws,hin:=[(0,rowS ws)],res := .tup [],hout:=[(0,rowS (Jbx ws))] }
def s81 (b:Nat) (ws:List Sday):CallSpec:=(io81 ws).at [(0,b)]
def h81a (ws:List Sday):Hint:={ X:=Nat,M:=fun x=>[(8,iv ((x:Int) + 1))],H:=fun x=>[(0,rowG ws.length (JbP ws x))],I:=fun x=>x=0 ∨ x < ws.length,mu:=fun x=>ws.length - x,x0:=(0:Nat),nx:=fun x=>x + 1 }
def h81b (ws:List Sday) (x:Nat):Hint:={ X:=Nat × List Sday,M:=fun y=>[(9,iv y.1)],H:=fun y=>[(0,rowG ws.length y.2)],I:=fun y=>y.1<=x + 1/\(y.2.length=ws.length/\okDs y.2)/\bub (x + 1) (JbP ws x)=bub y.1 y.2,mu:=fun y=>y.1,x0:=(x + 1,JbP ws x),nx:=fun y=>(y.1 - 1,swL y.2 y.1) }
def c81 (ws:List Sday) (x:Nat) (y:Nat × List Sday):CallSpec:=s54 (sdG y.2 y.1) (sdG y.2 (y.1 - 1))
def io72 (ws:List Sday):IoSpec:={ args:=[.vec 0,iv 0,iv ws.length,.any,cmpF],pre:=ws.length<=12/\okDs ws,hin:=[(0,rowS ws)],res := .tup [],hout:=[(0,rowS (Jbx ws))] }
def s72 (b:Nat) (ws:List Sday):CallSpec:=(io72 ws).at [(0,b)]
def h72 (ws:List Sday):Hint:={ X:=Nat,M:=fun _=>[(1,iv 0),(2,iv ws.length),(3,.any),(10,bv true),(11,bv true)],H:=fun _=>[],I:=fun _=>True,mu:=fun _=>0,x0:=(0:Nat),nx:=fun x=>x }
def c72 (ws:List Sday) (x:Nat):CallSpec:=s81 0 ws
def io53 (ws:List Sday):IoSpec:={ args:=[.vec 0,cmpF],pre:=ws.length<=12/\okDs ws,hin:=[(0,rowS ws)],res := .tup [],hout:=[(0,rowS (Jbx ws))] }
def s53 (b:Nat) (ws:List Sday):CallSpec:=(io53 ws).at [(0,b)]
def c53a (ws:List Sday):CallSpec:=s73 ws.length
def c53b (ws:List Sday):CallSpec:=s72 0 ws
abbrev rowKS (l:List Sday) (n:Nat):OB := .vec 110 2 l.length (fun q=>JaJ (rowK default l n q))
def io55 (ws:List Sday):IoSpec:={ args:=[.vec 0],pre:=ws.length<=65536,hin:=[(0,rowS ws)],res:=JdJ (cpL default ws),hout:=[] }
def s55 (b:Nat) (ws:List Sday):CallSpec:=(io55 ws).at [(0,b)]
def h55a (ws:List Sday):Hint:={ X:=Nat,M:=fun k=>[(3,iv k)],I:=fun k=>1<=k/\k<=ws.length /\ ∀ j,j < k->Jcj default ws j=true,mu:=fun k=>ws.length - k,x0:=(1:Nat),nx:=fun k=>k + 1 }
def h55b (ws:List Sday) (x:Nat):Hint:={ X:=Nat,M:=fun k=>[(3,iv (cpTo default ws (x + k)).length),(5,iv k)],H:=fun k=>[(0,rowKS ws (x + k))],I:=fun k=>1<=k/\x + k<=ws.length,mu:=fun k=>ws.length - k,x0:=(1:Nat),nx:=fun k=>k + 1 }
end Go.Ab
namespace Go.Ab
open Go Go.RowKit Go.Proofs Go.Sh Go.En
theorem JdL {α:Type} {i j:Nat} {a:¬ i=j->α} {b:i=j->α} {c:α} (h1:∀ h,a h=c) (h2:∀ h,b h=c):(Decidable.rec a b (instDecidableEqNat i j):α)=c:=by
 cases instDecidableEqNat i j with
 | isTrue h=>exact h2 h
 | isFalse h=>exact h1 h
theorem Jqi {α:Type} {i j:Nat} {a:¬ i < j->α} {b:i < j->α} {c:α} (h1:∀ h,a h=c) (h2:∀ h,b h=c):(Decidable.rec a b (Nat.decLt i j):α)=c:=by
 cases Nat.decLt i j with
 | isTrue h=>exact h2 h
 | isFalse h=>exact h1 h
abbrev q5s (l:List Int) (Pq:Prop):Prop:=l.length<=65536->Pq
abbrev q5t (l:List Int) (x0:Nat) (Pq:Prop):Prop:=(x0<=l.length /\ ∀ (j:Nat),j < x0->l.getD j 0=0)->Pq
abbrev q5u (l:List Int) (x0:Nat) (Pq:Prop):Prop:=q5t l x0 (decide ((x0:Int) < (↑(l.length):Int))=true->Pq)
theorem w40g (l:List Int)
 (o0:List.length l<=65536->0=(↑0:Int))
 (o1:q5s l (0<=l.length /\ ∀ (j:Nat),j < 0->l.getD j 0=0))
 (o2:q5s l (∀ (x0:Nat),q5u l x0 (0<=(x0:Int))))
 (o3:q5s l (∀ (x0:Nat),q5u l x0 ((x0:Int) < (↑(l.length):Int))))
 (o4:q5s l (∀ (x0:Nat),q5u l x0 ((!decide (l.getD x0 0=0))=true->l.getD x0 0=Option.getD (List.find? (fun (n:Int) => !decide (n=0)) l) 0)))
 (o5:q5s l (∀ (x0:Nat),q5u l x0 ((!decide (l.getD x0 0=0))=false->inI ((x0:Int) + 1))))
 (o6:q5s l (∀ (x0:Nat),q5u l x0 ((!decide (l.getD x0 0=0))=false->(x0:Int) + 1=(↑(x0 + 1):Int))))
 (o7:q5s l (∀ (x0:Nat),q5u l x0 ((!decide (l.getD x0 0=0))=false->x0 + 1<=l.length /\ ∀ (j:Nat),j < x0 + 1->l.getD j 0=0)))
 (o8:q5s l (∀ (x0:Nat),q5u l x0 ((!decide (l.getD x0 0=0))=false->l.length - (x0 + 1) < l.length - x0)))
 (o9:q5s l (∀ (x0:Nat),q5t l x0 (decide ((x0:Int) < (↑(l.length):Int))=false->0=Option.getD (List.find? (fun (n:Int) => !decide (n=0)) l) 0))) :
  Ja4 Tryz.prog 40 (s40g l):=by
 refine Ja7 Tryz.func40 rfl Tryz.call40 Jaw _ rfl rfl rfl rfl (Nat.le_of_ble_eq_true (by kernel_rfl)) (fun _ _ _ _ h=>h) ?_
 intro hpre C hC _ hE
 obtain ⟨P,w0,E0,av,hA,ro,df⟩:=C
 obtain ⟨rfl,rfl,rfl⟩:=hC
 refine Ja0 ?_
 refine zR [0] [] (Ak 1 tv) ?_
 refine Ja0 ?_
 refine zR [0,3] [] (Ak 1 tv) ?_
 refine Ja0 ?_
 refine Ja0 ?_
 refine zR [3,6,7,8] [] (Ak 3 tv) ?_
 refine Ja2 ?_
 refine zL (Hint.ann (h40g l) [(3,iv 0),(6,Ja6 l),(7,iv (↑(l.length):Int))] [] 10040) (zE hE [] [] [3,6,7] [] (An (An (An (zr (iv 0)) (zr true)) (An (An (zr (Ja6 l)) (zr true)) (An (An (zr (iv (↑(l.length):Int))) (zr true)) (An (An (ci (o0 hpre)) (zr nilN)) tv)))) (Ak 1 (An (zr true) (zr true))))) (o1 hpre) (fun (x0:Nat) hx0 => ?_)
 refine Ja0 ?_
 refine zR [3,6,7,8,9] [] (Ak 1 tv) ?_
 refine Ja0 ?_
 refine zI (decide ((x0:Int) < (↑(l.length):Int))) (fun y1 => ?_) (fun y1 => ?_)
 ·refine Ja3 ?_
  refine Ja0 ?_
  refine Ja2 ?_
  refine Ja0 ?_
  refine zR [3,6,7,8,5] [] (An (An (o2 hpre x0 hx0 y1) (o3 hpre x0 hx0 y1)) (Ak 2 tv)) ?_
  refine Ja0 ?_
  refine zR [3,6,7,8,5,14] [] (Ak 3 tv) ?_
  refine zI (!decide (l.getD x0 0=0)) (fun y2 => ?_) (fun y2 => ?_)
  ·refine Ja0 ?_
   refine zR [2] [] (Ak 2 tv) ?_
   refine Ja5 ?_
   exact zT [] (An (Ak 1 tv) (An (An (ci (o4 hpre x0 hx0 y1 y2)) (zr nilN)) (An (zr true) (An (zr true) (zr true)))))
  ·refine Ja3 ?_
   refine zR [3,6,7,8] [] (An (o5 hpre x0 hx0 y1 y2) (Ak 1 tv)) ?_
   exact zn (zE hE [] [] [3,6,7] [] (An (An (An (zr (iv 0)) (zr true)) (An (An (zr (Ja6 l)) (zr true)) (An (An (zr (iv (↑(l.length):Int))) (zr true)) (An (An (ci (o6 hpre x0 hx0 y1 y2)) (zr nilN)) tv)))) (Ak 1 (An (zr true) (zr true))))) (o7 hpre x0 hx0 y1 y2) (o8 hpre x0 hx0 y1 y2)
 ·refine Jaa ?_
  refine Ja0 ?_
  refine zR [2] [] (Ak 2 tv) ?_
  refine Ja5 ?_
  exact zT [] (An (Ak 1 tv) (An (An (ci (o9 hpre x0 hx0 y1)) (zr nilN)) (An (zr true) (An (zr true) (zr true)))))
theorem Jqj {l:List Int} {x:Nat} (hx:x < l.length) (h:∀ j,j < x->l.getD j 0=0) (hn:l.getD x 0 ≠ 0):(l.find? fun n => !decide (n=0)).getD 0=l.getD x 0:=by
 have:(l.find? fun n => !decide (n=0))=some (l.getD x 0):=by
  rw [List.find?_eq_some_iff_getElem]
  refine ⟨by simpa using hn,x,hx,(Jaf l 0 hx).symm,fun j hj => ?_⟩
  rw [← Jaf l 0 (by omega),h j hj]; rfl
 rw [this]; rfl
theorem Jqk {l:List Int} (h:∀ j,j < l.length->l.getD j 0=0):(l.find? fun n => !decide (n=0)).getD 0=0:=by
 have:(l.find? fun n => !decide (n=0))=none:=by
  rw [List.find?_eq_none]
  intro x hx
  obtain ⟨i,hi,e⟩:=List.getElem_of_mem hx
  have:=h i hi
  rw [Jaf _ _ hi,e] at this
  simp [this]
 rw [this]; rfl
theorem t40g (l:List Int):Ja4 Tryz.prog 40 (s40g l):=by
 apply w40g
 all_goals (try delta q5s q5t q5u)
 case o1=>intro _; exact ⟨Nat.zero_le _,fun j hj=>absurd hj (Nat.not_lt_zero j)⟩
 case o4=>intro hp x hx hl h; simp only [decide_eq_true_eq] at hl; exact (Jqj (by omega) hx.2 (by simpa using h)).symm
 case o7 =>
  intro hp x hx hl h
  simp only [decide_eq_true_eq,Bool.not_eq_false'] at hl h
  exact ⟨by omega,Jad hx.2 h⟩
 case o9=>intro hp x hx hl; simp only [decide_eq_false_iff_not] at hl; exact (Jqk fun j hj=>hx.2 j (by omega)).symm
 all_goals (try ((repeat intro _) <;> (try simp only [Bool.cond_true_left,Bool.cond_false_right,Bool.not_not,Bool.not_eq_true',Bool.not_eq_false',Bool.or_eq_true,Bool.or_eq_false_iff,Bool.and_eq_true,decide_eq_true_eq,decide_eq_false_iff_not,inI,big] at *) <;> first | (exact rfl) | omega | (exact ⟨Nat.zero_le _,fun j hj=>absurd hj (Nat.not_lt_zero j)⟩) | (simp_all; done) | (simp_all; omega)))
theorem w54 (x:Sday) (y:Sday)
  (o0:okD x/\okD y->inI (Sday.day x - Sday.day y))
  (o1:okD x/\okD y->inI (Sday.ad x - Sday.ad y))
  (o2:okD x/\okD y->2=List.length [x.day - y.day,x.ad - y.ad])
  (o3:okD x/\okD y -> ∀ (i0:Nat),i0 < List.length [x.day - y.day,x.ad - y.ad]->List.getD [[iv (x.day - y.day)],[iv (x.ad - y.ad)]] i0 (TI.za ti3) = [iv (List.getD [x.day - y.day,x.ad - y.ad] i0 0)])
  (o4:okD x/\okD y->List.length [x.day - y.day,x.ad - y.ad]<=65536)
  (o5:okD x/\okD y->Option.getD (List.find? (fun (n:Int) => !decide (n=0)) [x.day - y.day,x.ad - y.ad]) 0=cmpD x y) :
  Ja4 Tryz.prog 54 (s54 x y):=by
 refine Ja7 Tryz.func54 rfl Tryz.call54 Jaw _ rfl rfl rfl rfl (Nat.le_of_ble_eq_true (by kernel_rfl)) (fun _ _ _ _ h=>h) ?_
 intro hpre C hC _ hE
 obtain ⟨P,w0,E0,av,hA,ro,df⟩:=C
 obtain ⟨rfl,rfl,rfl⟩:=hC
 refine Ja0 ?_
 refine zR [2,3] [0,8] (Ak 3 tv) ?_
 refine Ja0 ?_
 refine zC ([(11,CallSpec.eq (c54 x y) [false])]) [4] [] (Ak 4 (An (o0 hpre) (Ak 4 (An (o1 hpre) (Ak 1 (An (An (An (An (zr 1) (An (o2 hpre) (fun (i0:Nat)=>(fun (y1:i0 < List.length [x.day - y.day,x.ad - y.ad])=>(o3 hpre i0 y1))))) tv) (An (t40g ([x.day - y.day,x.ad - y.ad])) (An (o4 hpre) (Ak 1 (fun (i2:Env)=>tv))))) (Ak 1 tv))))))) ?_
 refine Ja5 ?_
 exact zT [] (An (Ak 1 tv) (An (An (ci (o5 hpre)) (zr nilN)) (An (zr true) (An (zr true) (zr true)))))
theorem t54 (x y:Sday):Ja4 Tryz.prog 54 (s54 x y):=by
  apply w54
  all_goals (intro hp; simp only [okD] at hp)
  case o0 | o1=>all_goals (simp only [inI]; omega)
  case o2=>rfl
  case o3 => intro i hi; simp only [List.length_cons, List.length_nil] at hi; have : i = 0 ∨ i = 1 := by omega
             rcases this with rfl | rfl <;> rfl
  case o4=>simp
  case o5 =>
    unfold cmpD
    by_cases h:x.day - y.day=0
    · rw [if_pos h,h]
      by_cases h2:x.ad - y.ad=0
      · rw [h2]; rfl
      · simp [h2]
    · rw [if_neg h]; simp [h]
abbrev q5v (ws:List Sday) (Pq:Prop):Prop:=ws.length<=12/\okDs ws->Pq
abbrev q5w (ws:List Sday) (x0:Nat) (Pq:Prop):Prop:=x0=0 ∨ x0 < ws.length->Pq
abbrev q5x (ws:List Sday) (x0:Nat) (Pq:Prop):Prop:=q5w ws x0 (decide ((x0:Int) + 1 < (↑(ws.length):Int))=true->Pq)
abbrev q5y (ws:List Sday) (x0:Nat) (x4:Nat × List Sday) (Pq:Prop):Prop:=x4.1<=x0 + 1/\(x4.2.length=ws.length/\okDs x4.2)/\bub (x0 + 1) (JbP ws x0)=bub x4.1 x4.2->Pq
abbrev q5z (ws:List Sday) (x0:Nat) (x4:Nat × List Sday) (Pq:Prop):Prop:=q5y ws x0 x4 (decide (0 < (↑(x4.1):Int))=true->Pq)
abbrev q60 (ws:List Sday) (x0:Nat) (x4:Nat × List Sday) (Pq:Prop):Prop:=q5y ws x0 x4 ((bif decide (0 < (↑(x4.1):Int)) then decide (cmpD (sdG x4.2 x4.1) (sdG x4.2 (x4.1 - 1)) < 0) else false)=true->Pq)
abbrev q61 (ws:List Sday) (x0:Nat) (x4:Nat × List Sday) (Pq:Prop):Prop:=q5y ws x0 x4 ((bif decide (0 < (↑(x4.1):Int)) then decide (cmpD (sdG x4.2 x4.1) (sdG x4.2 (x4.1 - 1)) < 0) else false)=false->Pq)
theorem wio81 (ws:List Sday)
 (o0:List.length ws<=12/\okDs ws->inI (0 + 1))
 (o1:q5v ws (0 + 1=(↑0:Int) + 1))
 (o2:q5v ws (∀ (i1:Nat),i1 < ws.length->JaJ (ws.getD i1 default)=JaJ (sdG (JbP ws 0) i1)))
 (o3:q5v ws (0=0 ∨ 0 < ws.length))
 (o4:q5v ws (∀ (x0:Nat),q5x ws x0 ((x0:Int) + 1=(↑(x0 + 1):Int))))
 (o5:q5v ws (∀ (x0:Nat),q5x ws x0 ((x0 + 1,JbP ws x0).1<=x0 + 1/\((x0 + 1,JbP ws x0).2.length=ws.length/\okDs (x0 + 1,JbP ws x0).2)/\bub (x0 + 1) (JbP ws x0)=bub (x0 + 1,JbP ws x0).1 (x0 + 1,JbP ws x0).2)))
 (o6:q5v ws (∀ (x0:Nat),q5x ws x0 (∀ (x4:Nat × List Sday),q5z ws x0 x4 (0<=(↑(x4.1):Int)))))
 (o7:q5v ws (∀ (x0:Nat),q5x ws x0 (∀ (x4:Nat × List Sday),q5z ws x0 x4 ((↑(x4.1):Int) < (↑(ws.length):Int)))))
 (o8:q5v ws (∀ (x0:Nat),q5x ws x0 (∀ (x4:Nat × List Sday),q5z ws x0 x4 (x4.1 < ws.length))))
 (o9:q5v ws (∀ (x0:Nat),q5x ws x0 (∀ (x4:Nat × List Sday),q5z ws x0 x4 (inI ((↑(x4.1):Int) - 1)))))
 (o10:q5v ws (∀ (x0:Nat),q5x ws x0 (∀ (x4:Nat × List Sday),q5z ws x0 x4 (0<=(↑(x4.1):Int) - 1))))
 (o11:q5v ws (∀ (x0:Nat),q5x ws x0 (∀ (x4:Nat × List Sday),q5z ws x0 x4 ((↑(x4.1):Int) - 1 < (↑(ws.length):Int)))))
 (o12:q5v ws (∀ (x0:Nat),q5x ws x0 (∀ (x4:Nat × List Sday),q5z ws x0 x4 (((↑(x4.1):Int) - 1).toNat < ws.length))))
 (o13:q5v ws (∀ (x0:Nat),q5x ws x0 (∀ (x4:Nat × List Sday),q5z ws x0 x4 ((sdG x4.2 ((↑(x4.1):Int) - 1).toNat).ad=(sdG x4.2 (x4.1 - 1)).ad))))
 (o14:q5v ws (∀ (x0:Nat),q5x ws x0 (∀ (x4:Nat × List Sday),q5z ws x0 x4 ((sdG x4.2 ((↑(x4.1):Int) - 1).toNat).day=(sdG x4.2 (x4.1 - 1)).day))))
 (o15:q5v ws (∀ (x0:Nat),q5x ws x0 (∀ (x4:Nat × List Sday),q5z ws x0 x4 (okD (sdG x4.2 x4.1)))))
 (o16:q5v ws (∀ (x0:Nat),q5x ws x0 (∀ (x4:Nat × List Sday),q5z ws x0 x4 (okD (sdG x4.2 (x4.1 - 1))))))
 (o17:q5v ws (∀ (x0:Nat),q5x ws x0 (∀ (x4:Nat × List Sday),q60 ws x0 x4 (inI ((↑(x4.1):Int) - 1)))))
 (o18:q5v ws (∀ (x0:Nat),q5x ws x0 (∀ (x4:Nat × List Sday),q60 ws x0 x4 (inI ((↑(x4.1):Int) - 1)))))
 (o19:q5v ws (∀ (x0:Nat),q5x ws x0 (∀ (x4:Nat × List Sday),q60 ws x0 x4 (0<=(↑(x4.1):Int) - 1))))
 (o20:q5v ws (∀ (x0:Nat),q5x ws x0 (∀ (x4:Nat × List Sday),q60 ws x0 x4 ((↑(x4.1):Int) - 1 < (↑(ws.length):Int)))))
 (o21:q5v ws (∀ (x0:Nat),q5x ws x0 (∀ (x4:Nat × List Sday),q60 ws x0 x4 (((↑(x4.1):Int) - 1).toNat < ws.length))))
 (o22:q5v ws (∀ (x0:Nat),q5x ws x0 (∀ (x4:Nat × List Sday),q60 ws x0 x4 (0<=(↑(x4.1):Int)))))
 (o23:q5v ws (∀ (x0:Nat),q5x ws x0 (∀ (x4:Nat × List Sday),q60 ws x0 x4 ((↑(x4.1):Int) < (↑(ws.length):Int)))))
 (o24:q5v ws (∀ (x0:Nat),q5x ws x0 (∀ (x4:Nat × List Sday),q60 ws x0 x4 (x4.1 < ws.length))))
 (o25:q5v ws (∀ (x0:Nat),q5x ws x0 (∀ (x4:Nat × List Sday),q60 ws x0 x4 (0<=(↑(x4.1):Int)))))
 (o26:q5v ws (∀ (x0:Nat),q5x ws x0 (∀ (x4:Nat × List Sday),q60 ws x0 x4 ((↑(x4.1):Int) < (↑(ws.length):Int)))))
 (o27:q5v ws (∀ (x0:Nat),q5x ws x0 (∀ (x4:Nat × List Sday),q60 ws x0 x4 (x4.1 < ws.length))))
 (o28:q5v ws (∀ (x0:Nat),q5x ws x0 (∀ (x4:Nat × List Sday),q60 ws x0 x4 (0<=(↑(x4.1):Int) - 1))))
 (o29:q5v ws (∀ (x0:Nat),q5x ws x0 (∀ (x4:Nat × List Sday),q60 ws x0 x4 ((↑(x4.1):Int) - 1 < (↑(ws.length):Int)))))
 (o30:q5v ws (∀ (x0:Nat),q5x ws x0 (∀ (x4:Nat × List Sday),q60 ws x0 x4 (((↑(x4.1):Int) - 1).toNat < ws.length))))
 (o31:q5v ws (∀ (x0:Nat),q5x ws x0 (∀ (x4:Nat × List Sday),q60 ws x0 x4 (inI ((↑(x4.1):Int) - 1)))))
 (o32:q5v ws (∀ (x0:Nat),q5x ws x0 (∀ (x4:Nat × List Sday),q60 ws x0 x4 ((↑(x4.1):Int) - 1=(↑(x4.1 - 1):Int)))))
 (o33:q5v ws (∀ (x0:Nat),q5x ws x0 (∀ (x4:Nat × List Sday),q60 ws x0 x4 (∀ (i32:Nat),i32 < ws.length->Decidable.rec (fun (h:¬i32=((↑(x4.1):Int) - 1).toNat)=>Decidable.rec (fun (h:¬i32=x4.1)=>JaJ (sdG x4.2 i32)) (fun (h:i32=x4.1)=>[iv (sdG x4.2 ((↑(x4.1):Int) - 1).toNat).ad,iv (sdG x4.2 ((↑(x4.1):Int) - 1).toNat).day] ++ []) (instDecidableEqNat i32 x4.1)) (fun (h:i32=((↑(x4.1):Int) - 1).toNat)=>[iv (sdG x4.2 x4.1).ad,iv (sdG x4.2 x4.1).day]) (instDecidableEqNat i32 ((↑(x4.1):Int) - 1).toNat)=JaJ (sdG (swL x4.2 x4.1) i32)))))
 (o34:q5v ws (∀ (x0:Nat),q5x ws x0 (∀ (x4:Nat × List Sday),q60 ws x0 x4 ((x4.1 - 1,swL x4.2 x4.1).1<=x0 + 1/\((x4.1 - 1,swL x4.2 x4.1).2.length=ws.length/\okDs (x4.1 - 1,swL x4.2 x4.1).2)/\bub (x0 + 1) (JbP ws x0)=bub (x4.1 - 1,swL x4.2 x4.1).1 (x4.1 - 1,swL x4.2 x4.1).2))))
 (o35:q5v ws (∀ (x0:Nat),q5x ws x0 (∀ (x4:Nat × List Sday),q60 ws x0 x4 ((x4.1 - 1,swL x4.2 x4.1).1 < x4.1))))
 (o36:q5v ws (∀ (x0:Nat),q5x ws x0 (∀ (x4:Nat × List Sday),q61 ws x0 x4 (inI ((x0:Int) + 1 + 1)))))
 (o37:q5v ws (∀ (x0:Nat),q5x ws x0 (∀ (x4:Nat × List Sday),q61 ws x0 x4 ((x0:Int) + 1 + 1=(↑(x0 + 1):Int) + 1))))
 (o38:q5v ws (∀ (x0:Nat),q5x ws x0 (∀ (x4:Nat × List Sday),q61 ws x0 x4 (∀ (i34:Nat),i34 < ws.length->JaJ (sdG x4.2 i34)=JaJ (sdG (JbP ws (x0 + 1)) i34)))))
 (o39:q5v ws (∀ (x0:Nat),q5x ws x0 (∀ (x4:Nat × List Sday),q61 ws x0 x4 (x0 + 1=0 ∨ x0 + 1 < ws.length))))
 (o40:q5v ws (∀ (x0:Nat),q5x ws x0 (∀ (x4:Nat × List Sday),q61 ws x0 x4 (ws.length - (x0 + 1) < ws.length - x0))))
 (o41:q5v ws (∀ (x0:Nat),q5w ws x0 (decide ((x0:Int) + 1 < (↑(ws.length):Int))=false->ws.length=(Jbx ws).length)))
 (o42:q5v ws (∀ (x0:Nat),q5w ws x0 (decide ((x0:Int) + 1 < (↑(ws.length):Int))=false -> ∀ (i36:Nat),i36 < ws.length->JaJ (sdG (JbP ws x0) i36)=JaJ ((Jbx ws).getD i36 default))))
  (l:List (Nat × Nat)) (hl:l.map (·.1) = [0]) (hnd:(l.map (·.2)).Nodup) :
  Ja4 Tryz.prog 81 (IoSpec.at (io81 ws) l):=by
 refine JbU Tryz.func81 rfl Tryz.call81 Jaw (io81 ws) 1 l (by rw [hl]; kernel_rfl) hnd (Nat.le_of_ble_eq_true (by kernel_rfl)) (fun _ _ _ _ h=>h) ?_
 intro hpre C hC _ hE
 obtain ⟨P,w0,E0,av,hA,ro,df⟩:=C
 obtain ⟨rfl,rfl,rfl⟩:=hC
 refine Ja0 ?_
 refine zR [0,1,2,3,8] [0] (Ak 1 (An (o0 hpre) (Ak 1 tv))) ?_
 refine Ja2 ?_
 refine zL (Hint.ann (h81a ws) [(0,AV.vec 0),(1,iv 0),(2,iv (↑(ws.length):Int)),(3,AV.clo 54 [])] [] 10025) (zEn 1 hE [] [(0,.same 0)] [1,2,3] [] (An (An (zr (some (Src.same 0))) (An (An (zr (iv 0)) (zr true)) (An (An (zr (iv (↑(ws.length):Int))) (zr true)) (An (An (zr (AV.clo 54 [])) (zr true)) (An (An (ci (o1 hpre)) (zr nilN)) tv))))) (An (An (An (zr 110) (An (zr 2) (An (zr ws.length) (fun (i1:Nat)=>(fun (y2:i1 < ws.length)=>(o2 hpre i1 y2)))))) tv) (An (zr true) (zr true))))) (o3 hpre) (fun (x0:Nat) hx0 => ?_)
 refine Ja0 ?_
 refine Ja0 ?_
 refine zR [0,1,2,3,8,14] [0] (Ak 3 tv) ?_
 refine zI (decide ((x0:Int) + 1 < (↑(ws.length):Int))) (fun y3 => ?_) (fun y3 => ?_)
 ·refine Ja3 ?_
  refine Ja0 ?_
  refine Ja2 ?_
  refine Ja0 ?_
  refine zR [0,1,2,3,8,9] [0] (Ak 2 tv) ?_
  refine Ja2 ?_
  refine zL (Hint.ann (h81b ws x0) [(0,AV.vec 0),(1,iv 0),(2,iv (↑(ws.length):Int)),(3,AV.clo 54 []),(8,iv ((x0:Int) + 1))] [] 20065) (zEn 1 hE [] [(0,.same 0)] [1,2,3,8] [0] (An (An (zr (some (Src.same 0))) (An (An (zr (iv 0)) (zr true)) (An (An (zr (iv (↑(ws.length):Int))) (zr true)) (An (An (zr (AV.clo 54 [])) (zr true)) (An (An (zr (iv ((x0:Int) + 1))) (zr true)) (An (An (ci (o4 hpre x0 hx0 y3)) (zr nilN)) tv)))))) (An (An (An (zr (OB.vec 110 2 ws.length fun (i:Nat)=>JaJ (sdG (JbP ws x0) i))) (zr true)) tv) (An (zr true) (zr true))))) (o5 hpre x0 hx0 y3) (fun (x4:Nat × List Sday) hx4 => ?_)
  refine Ja0 ?_
  refine Ja0 ?_
  refine zC ([(14,CallSpec.eq (c81 ws x0 x4) [true,false])]) [0,1,2,3,8,9,34] [0] (Ak 4 (An (fun (y5:decide (0 < (↑(x4.1):Int))=true)=>(An (Ak 1 tv) tv)) (An (fun (y6:decide (0 < (↑(x4.1):Int))=true)=>(An (Ak 1 tv) tv)) (An (fun (y7:decide (0 < (↑(x4.1):Int))=true)=>(An (Ak 1 tv) tv)) (An (fun (y8:decide (0 < (↑(x4.1):Int))=true)=>(An (An (fun (y9:decide (0 < (↑(x4.1):Int))=true)=>y8) (An (fun (y10:decide (0 < (↑(x4.1):Int))=true)=>y8) tv)) (An (o6 hpre x0 hx0 y3 x4 hx4 y8) (o7 hpre x0 hx0 y3 x4 hx4 y8)))) (An (fun (y11:decide (0 < (↑(x4.1):Int))=true)=>(An (An (fun (y12:decide (0 < (↑(x4.1):Int))=true)=>y11) tv) (An (o8 hpre x0 hx0 y3 x4 hx4 y11) tv))) (An (fun (y13:decide (0 < (↑(x4.1):Int))=true)=>(An (Ak 1 tv) tv)) (An (fun (y14:decide (0 < (↑(x4.1):Int))=true)=>(An (Ak 1 tv) tv)) (An (fun (y15:decide (0 < (↑(x4.1):Int))=true)=>(An (An (fun (y16:decide (0 < (↑(x4.1):Int))=true)=>y15) (Ak 1 tv)) (o9 hpre x0 hx0 y3 x4 hx4 y15))) (An (fun (y17:decide (0 < (↑(x4.1):Int))=true)=>(An (An (fun (y18:decide (0 < (↑(x4.1):Int))=true)=>y17) (An (fun (y19:decide (0 < (↑(x4.1):Int))=true)=>y17) tv)) (An (o10 hpre x0 hx0 y3 x4 hx4 y17) (o11 hpre x0 hx0 y3 x4 hx4 y17)))) (An (fun (y20:decide (0 < (↑(x4.1):Int))=true)=>(An (An (fun (y21:decide (0 < (↑(x4.1):Int))=true)=>y20) tv) (An (o12 hpre x0 hx0 y3 x4 hx4 y20) tv))) (An (fun (y22:decide (0 < (↑(x4.1):Int))=true)=>(An (An (fun (y23:decide (0 < (↑(x4.1):Int))=true)=>y22) (An (fun (y24:decide (0 < (↑(x4.1):Int))=true)=>y22) (An (fun (y25:decide (0 < (↑(x4.1):Int))=true)=>y22) tv))) (An (An (zr (AV.agg (JaJ (sdG x4.2 x4.1)))) (An (An (ci (o13 hpre x0 hx0 y3 x4 hx4 y22)) (An (ci (o14 hpre x0 hx0 y3 x4 hx4 y22)) tv)) tv)) (An (t54 (sdG x4.2 x4.1) (sdG x4.2 (x4.1 - 1))) (An (An (o15 hpre x0 hx0 y3 x4 hx4 y22) (o16 hpre x0 hx0 y3 x4 hx4 y22)) (Ak 1 (fun (i26:Env)=>tv))))))) (An (fun (y27:decide (0 < (↑(x4.1):Int))=true)=>(An (An (fun (y28:decide (0 < (↑(x4.1):Int))=true)=>y27) (Ak 1 tv)) tv)) (An (An (fun (y29:decide (0 < (↑(x4.1):Int))=true)=>y29) (fun (y30:decide (0 < (↑(x4.1):Int))=false)=>tv)) tv)))))))))))))) ?_
  refine zI (bif decide (0 < (↑(x4.1):Int)) then decide (cmpD (sdG x4.2 x4.1) (sdG x4.2 (x4.1 - 1)) < 0) else false) (fun y31 => ?_) (fun y31 => ?_)
  ·refine Ja3 ?_
   refine Ja0 ?_
   refine Ja2 ?_
   refine zC ([(17,focB)]) [0,1,2,3,8,9] [0] (Ak 4 (An (o17 hpre x0 hx0 y3 x4 hx4 y31) (Ak 2 (An (o18 hpre x0 hx0 y3 x4 hx4 y31) (An (An (o19 hpre x0 hx0 y3 x4 hx4 y31) (o20 hpre x0 hx0 y3 x4 hx4 y31)) (An (An (o21 hpre x0 hx0 y3 x4 hx4 y31) tv) (Ak 2 (An (An (o22 hpre x0 hx0 y3 x4 hx4 y31) (o23 hpre x0 hx0 y3 x4 hx4 y31)) (An (An (o24 hpre x0 hx0 y3 x4 hx4 y31) tv) (An (An (o25 hpre x0 hx0 y3 x4 hx4 y31) (o26 hpre x0 hx0 y3 x4 hx4 y31)) (An (An (o27 hpre x0 hx0 y3 x4 hx4 y31) tv) (An (An (o28 hpre x0 hx0 y3 x4 hx4 y31) (o29 hpre x0 hx0 y3 x4 hx4 y31)) (An (o30 hpre x0 hx0 y3 x4 hx4 y31) tv))))))))))))) ?_
   refine zR [0,1,2,3,8,9] [0] (Ak 1 (An (o31 hpre x0 hx0 y3 x4 hx4 y31) (Ak 1 tv))) ?_
   exact zn (zEn 1 hE [] [(0,.same 0)] [1,2,3,8] [] (An (An (zr (some (Src.same 0))) (An (An (zr (iv 0)) (zr true)) (An (An (zr (iv (↑(ws.length):Int))) (zr true)) (An (An (zr (AV.clo 54 [])) (zr true)) (An (An (zr (iv ((x0:Int) + 1))) (zr true)) (An (An (ci (o32 hpre x0 hx0 y3 x4 hx4 y31)) (zr nilN)) tv)))))) (An (An (An (zr 110) (An (zr 2) (An (zr ws.length) (fun (i32:Nat)=>(fun (y33:i32 < ws.length)=>(o33 hpre x0 hx0 y3 x4 hx4 y31 i32 y33)))))) tv) (An (zr true) (zr true))))) (o34 hpre x0 hx0 y3 x4 hx4 y31) (o35 hpre x0 hx0 y3 x4 hx4 y31)
  ·refine Jaa ?_
   refine zR [0,1,2,3,8] [0] (Ak 1 (An (o36 hpre x0 hx0 y3 x4 hx4 y31) (Ak 1 tv))) ?_
   exact zn (zEn 1 hE [] [(0,.same 0)] [1,2,3] [] (An (An (zr (some (Src.same 0))) (An (An (zr (iv 0)) (zr true)) (An (An (zr (iv (↑(ws.length):Int))) (zr true)) (An (An (zr (AV.clo 54 [])) (zr true)) (An (An (ci (o37 hpre x0 hx0 y3 x4 hx4 y31)) (zr nilN)) tv))))) (An (An (An (zr 110) (An (zr 2) (An (zr ws.length) (fun (i34:Nat)=>(fun (y35:i34 < ws.length)=>(o38 hpre x0 hx0 y3 x4 hx4 y31 i34 y35)))))) tv) (An (zr true) (zr true))))) (o39 hpre x0 hx0 y3 x4 hx4 y31) (o40 hpre x0 hx0 y3 x4 hx4 y31)
 ·refine Jaa ?_
  exact zQ (ASt.mk [] [(0,OB.vec 110 2 (Jbx ws).length fun (i:Nat)=>JaJ ((Jbx ws).getD i default))] 100) (zEn 1 hE [] [(0,.same 0)] [] [] (Ak 1 (An (An (An (zr 110) (An (zr 2) (An (o41 hpre x0 hx0 y3) (fun (i36:Nat)=>(fun (y37:i36 < ws.length)=>(o42 hpre x0 hx0 y3 i36 y37)))))) tv) (An (zr true) (zr true))))) (Ak 1 (An (zr (AV.tup [])) (An (zr (some (OB.vec 110 2 (Jbx ws).length fun (i:Nat)=>JaJ ((Jbx ws).getD i default)))) tv)))
theorem Jnf {l m:List Sday} (h:okDs l) (hl:l.length=m.length) (hm:∀ x,x ∈ m ↔ x ∈ l):okDs m:=by
 intro q hq
 have:sdG m q ∈ l:=(hm _).1 (Jbc m _ hq)
 obtain ⟨i,hi,e⟩:=List.getElem_of_mem this
 have h1:=h i hi
 unfold sdG at h1
 rw [Jaf _ _ hi,e] at h1
 exact h1
theorem t81 (b:Nat) (ws:List Sday):Ja4 Tryz.prog 81 (s81 b ws):=by
  apply wio81 ws (l:=[(0,b)]) (hl:=rfl) (hnd:=by simp)
  all_goals (try delta q5v q5w q5x q5y q5z q60 q61)
  all_goals (intro hp; obtain ⟨p1,p2⟩:=hp)
  case o0=>simp only [inI]; omega
  case o1=>rfl
  case o2=>intro i hi; rfl
  case o3=>exact .inl rfl
  all_goals (intro x hx hl; simp only [decide_eq_true_eq,decide_eq_false_iff_not] at hl)
  case o4=>rfl
  case o5=>exact ⟨Nat.le_refl _,⟨JfK _ _,Jnf p2 (JfK _ _).symm fun z=>by
      rcases Nat.eq_zero_or_pos x with e | e
      · subst e; rfl
      · exact Jnc _ _ _ (by omega)⟩,rfl⟩
  case o41=>rw [JfL]
  case o42 =>
    intro i hi
    have:x=ws.length - 1:=by omega
    subst this; rfl
  all_goals (rintro ⟨j,m⟩ hy; obtain ⟨y1,⟨y2,y3⟩,y4⟩:=hy; simp only at y1 y2 y3 y4 ⊢)
  all_goals (intro hc)
  case o13 | o14 => all_goals (simp only [decide_eq_true_eq] at hc; have e : ((j : Int) - 1).toNat = j - 1 := by omega
                               rw [e])
  case o15 | o16=>all_goals (exact y3 _ (by omega))
  case o6 | o7 | o8 | o10 | o11 | o12=>all_goals (simp only [decide_eq_true_eq] at hc; omega)
  case o9=>simp only [decide_eq_true_eq] at hc; simp only [inI]; omega
  case o36=>simp only [inI]; omega
  case o37=>rfl
  case o38 =>
    intro i hi
    rw [JbP,y4]
    have:bub j m=m:=by
      cases j with
      | zero=>rfl
      | succ j =>
        rw [bub,if_neg]
        intro h
        rw [decide_eq_true (show (0:Int) < ((j + 1:Nat):Int) by omega)] at hc
        rw [show j + 1 - 1=j from rfl,h] at hc
        cases hc
    rw [this]
  case o39=>exact .inr (by omega)
  case o40=>omega
  all_goals (rw [Bool.cond_false_right,Bool.and_eq_true,decide_eq_true_eq,decide_eq_true_eq] at hc; obtain ⟨c1,c2⟩:=hc)
  case o33 =>
    intro i hi
    have e:((j:Int) - 1).toNat=j - 1:=by omega
    rw [e,JdK (by omega) (by omega) (by omega)]
    refine JdL (fun h => ?_) (fun h => ?_)
    · refine JdL (fun h2 => ?_) (fun h2 => ?_)
      · rw [if_neg h2,if_neg h]
      · rw [if_pos h2]; rfl
    · by_cases h2:i=j
      · omega
      · rw [if_neg h2,if_pos h]; rfl
  case o34 =>
    refine ⟨by omega,⟨by rw [Jeu]; exact y2,Jnf y3 (Jeu _ _).symm fun z=>Jna (by omega) (by omega) z⟩,?_⟩
    rw [y4]
    cases j with
    | zero=>omega
    | succ j=>rw [bub,if_pos (by simpa using c2)]; rfl
  all_goals (first | omega | (simp only [inI]; omega))
theorem wio72 (ws:List Sday)
  (o0:ws.length<=12/\okDs ws -> ∀ (x0:Nat),True->inI ((↑(ws.length):Int) - 0))
  (o1:ws.length<=12/\okDs ws -> ∀ (x0:Nat),True->decide ((↑(ws.length):Int) - 0<=12)=true)
  (l:List (Nat × Nat)) (hl:l.map (·.1) = [0]) (hnd:(l.map (·.2)).Nodup) :
  Ja4 Tryz.prog 72 (IoSpec.at (io72 ws) l):=by
 refine JbU Tryz.func72 rfl Tryz.call72 Jaw (io72 ws) 1 l (by rw [hl]; kernel_rfl) hnd (Nat.le_of_ble_eq_true (by kernel_rfl)) (fun _ _ _ _ h=>h) ?_
 intro hpre C hC _ hE
 obtain ⟨P,w0,E0,av,hA,ro,df⟩:=C
 obtain ⟨rfl,rfl,rfl⟩:=hC
 refine Ja0 ?_
 refine zR [0,1,2,3,4,10] [0] (Ak 1 tv) ?_
 refine Ja0 ?_
 refine zR [0,1,2,3,4,10,11] [0] (Ak 1 tv) ?_
 refine Ja2 ?_
 refine zL (Hint.ann (h72 ws) [(0,AV.vec 0),(4,AV.clo 54 [])] [(0,OB.vec 110 2 ws.length fun (i:Nat)=>JaJ (ws.getD i default))] 10017) (zEn 1 hE [] [(0,.same 0)] [4,1,2,3,10,11] [0] (An (An (zr (some (Src.same 0))) (An (An (zr (AV.clo 54 [])) (zr true)) (An (An (zr (iv 0)) (zr true)) (An (An (zr (iv (↑(ws.length):Int))) (zr true)) (An (An (zr AV.any) (zr true)) (An (An (zr (bv true)) (zr true)) (An (An (zr (bv true)) (zr true)) tv))))))) (An (An (An (zr (OB.vec 110 2 ws.length fun (i:Nat)=>JaJ (ws.getD i default))) (zr true)) tv) (An (zr true) (zr true))))) tv (fun (x0:Nat) hx0 => ?_)
 refine Ja2 ?_
 refine Ja0 ?_
 refine zR [0,4,1,2,3,10,11,12] [0] (Ak 2 (An (o0 hpre x0 hx0) (Ak 1 tv))) ?_
 refine Ja0 ?_
 refine Ja0 ?_
 refine zR [0,4,1,2,3,10,11,12,25] [0] (Ak 2 tv) ?_
 refine zI (decide ((↑(ws.length):Int) - 0<=12)) (fun _ => ?_) (fun h=>by cases (h.symm.trans (o1 hpre x0 hx0)))
 refine Ja0 ?_
 refine zC ([(4,CallSpec.eq (c72 ws x0) [true,true,true,true])]) [] [0] (Ak 4 (An (An (An (zr (AV.vec 0)) (An (zr (iv 0)) (An (zr (iv (↑(ws.length):Int))) (An (zr (AV.clo 54 [])) tv)))) (An (t81 (0) (ws)) (An (An hpre.1 hpre.2) (An (An (zr (some (OB.vec 110 2 ws.length fun (i:Nat)=>JaJ (ws.getD i default)))) tv) (fun (i1:Env)=>tv))))) tv)) ?_
 refine Ja5 ?_
 exact zO (ASt.mk [] [(0,OB.vec 110 2 (Jbx ws).length fun (i:Nat)=>JaJ ((Jbx ws).getD i default))] 100) (zEn 1 hE [] [(0,.same 0)] [] [0] (Ak 1 (An (An (An (zr (OB.vec 110 2 (Jbx ws).length fun (i:Nat)=>JaJ ((Jbx ws).getD i default))) (zr true)) tv) (An (zr true) (zr true))))) (Ak 1 (An (zr (AV.tup [])) (An (zr (some (OB.vec 110 2 (Jbx ws).length fun (i:Nat)=>JaJ ((Jbx ws).getD i default)))) tv)))
theorem t72 (b:Nat) (ws:List Sday):Ja4 Tryz.prog 72 (s72 b ws):=by
 apply wio72 ws (l:=[(0,b)]) (hl:=rfl) (hnd:=by simp)
 all_goals (intro hp; obtain ⟨p1,p2⟩:=hp)
 all_goals (intros; first | (simp only [inI]; omega) | (rw [decide_eq_true_eq]; omega))
theorem wio53 (ws:List Sday)
  (o0:ws.length<=12/\okDs ws->0<=(↑(ws.length):Int))
  (o1:ws.length<=12/\okDs ws->(↑(ws.length):Int)<=9223372036854775807)
  (o2:ws.length<=12/\okDs ws->0<=(↑(ws.length):Int))
  (o3:ws.length<=12/\okDs ws->(↑(ws.length):Int)<=9223372036854775807)
  (l:List (Nat × Nat)) (hl:l.map (·.1) = [0]) (hnd:(l.map (·.2)).Nodup) :
  Ja4 Tryz.prog 53 (IoSpec.at (io53 ws) l):=by
 refine JbU Tryz.func53 rfl Tryz.call53 Jaw (io53 ws) 1 l (by rw [hl]; kernel_rfl) hnd (Nat.le_of_ble_eq_true (by kernel_rfl)) (fun _ _ _ _ h=>h) ?_
 intro hpre C hC _ hE
 obtain ⟨P,w0,E0,av,hA,ro,df⟩:=C
 obtain ⟨rfl,rfl,rfl⟩:=hC
 refine Ja0 ?_
 refine zR [0,1,4] [0] (Ak 3 tv) ?_
 refine zC ([(4,CallSpec.eq (c53a ws) [true]),(6,CallSpec.eq (c53b ws) [true,true,true,true,true])]) [] [0] (Ak 3 (An (An (o0 hpre) (o1 hpre)) (An (An (An (zr (AV.lit (Value.int IntKind.u64 (↑(ws.length):Int)))) tv) (An (t73 ((↑(ws.length):Int))) (An (An (o2 hpre) (o3 hpre)) (Ak 1 (fun (i0:Env)=>tv))))) (Ak 1 (An (An (An (zr (AV.vec 0)) (An (zr (iv 0)) (An (zr (iv (↑(ws.length):Int))) (An (zr AV.any) (An (zr (AV.clo 54 [])) tv))))) (An (t72 (0) (ws)) (An (An hpre.1 hpre.2) (An (An (zr (some (OB.vec 110 2 ws.length fun (i:Nat)=>JaJ (ws.getD i default)))) tv) (fun (i1:Env)=>tv))))) tv))))) ?_
 exact zQ (ASt.mk [] [(0,OB.vec 110 2 (Jbx ws).length fun (i:Nat)=>JaJ ((Jbx ws).getD i default))] 100) (zEn 1 hE [] [(0,.same 0)] [] [0] (Ak 1 (An (An (An (zr (OB.vec 110 2 (Jbx ws).length fun (i:Nat)=>JaJ ((Jbx ws).getD i default))) (zr true)) tv) (An (zr true) (zr true))))) (Ak 1 (An (zr (AV.tup [])) (An (zr (some (OB.vec 110 2 (Jbx ws).length fun (i:Nat)=>JaJ ((Jbx ws).getD i default)))) tv)))
theorem t53 (b:Nat) (ws:List Sday):Ja4 Tryz.prog 53 (s53 b ws):=by
 apply wio53 ws (l:=[(0,b)]) (hl:=rfl) (hnd:=by simp)
 all_goals (intro hp; obtain ⟨p1,p2⟩:=hp; omega)
abbrev q62 (ws:List Sday) (Pq:Prop):Prop:=ws.length<=65536->Pq
abbrev q63 (ws:List Sday) (Pq:Prop):Prop:=q62 ws (decide ((↑(ws.length):Int) < 2)=false->Pq)
abbrev q64 (ws:List Sday) (x3:Nat) (Pq:Prop):Prop:=(1<=x3/\x3<=ws.length /\ ∀ (j:Nat),j < x3->Jcj default ws j=true)->Pq
abbrev q65 (ws:List Sday) (x3:Nat) (Pq:Prop):Prop:=q64 ws x3 (decide ((x3:Int) < (↑(ws.length):Int))=true->Pq)
abbrev q66 (ws:List Sday) (x3:Nat) (Pq:Prop):Prop:=q65 ws x3 ((decide ((ws.getD x3 default).ad=(ws.getD ((x3:Int) - 1).toNat default).ad) && (decide ((ws.getD x3 default).day=(ws.getD ((x3:Int) - 1).toNat default).day) && true))=true->Pq)
abbrev q67 (ws:List Sday) (x3:Nat) (x6:Nat) (Pq:Prop):Prop:=1<=x6/\x3 + x6<=ws.length->Pq
abbrev q68 (ws:List Sday) (x3:Nat) (x6:Nat) (Pq:Prop):Prop:=q67 ws x3 x6 (decide ((x6:Int) < (↑(ws.length - x3):Int))=true->Pq)
abbrev q69 (ws:List Sday) (x3:Nat) (x6:Nat) (Pq:Prop):Prop:=q68 ws x3 x6 ((!(decide ((rowK default ws (x3 + x6) (x3 + x6)).ad=(rowK default ws (x3 + x6) (x3 + ((x6:Int) - 1).toNat)).ad) && (decide ((rowK default ws (x3 + x6) (x3 + x6)).day=(rowK default ws (x3 + x6) (x3 + ((x6:Int) - 1).toNat)).day) && true)))=true->Pq)
abbrev q6a (ws:List Sday) (x3:Nat) (x6:Nat) (Pq:Prop):Prop:=q68 ws x3 x6 ((!(decide ((rowK default ws (x3 + x6) (x3 + x6)).ad=(rowK default ws (x3 + x6) (x3 + ((x6:Int) - 1).toNat)).ad) && (decide ((rowK default ws (x3 + x6) (x3 + x6)).day=(rowK default ws (x3 + x6) (x3 + ((x6:Int) - 1).toNat)).day) && true)))=false->Pq)
abbrev q6b (ws:List Sday) (x3:Nat) (x6:Nat) (Pq:Prop):Prop:=q67 ws x3 x6 (decide ((x6:Int) < (↑(ws.length - x3):Int))=false->Pq)
abbrev q6c (ws:List Sday) (x3:Nat) (Pq:Prop):Prop:=q65 ws x3 ((decide ((ws.getD x3 default).ad=(ws.getD ((x3:Int) - 1).toNat default).ad) && (decide ((ws.getD x3 default).day=(ws.getD ((x3:Int) - 1).toNat default).day) && true))=false->Pq)
theorem wio55 (ws:List Sday)
 (o0:q62 ws (decide ((↑(ws.length):Int) < 2)=true->ws.length=(cpL default ws).length))
 (o1:q62 ws (decide ((↑(ws.length):Int) < 2)=true -> ∀ (i1:Nat),i1 < (cpL default ws).length->JaJ (ws.getD i1 default)=JaJ ((cpL default ws).getD i1 default)))
 (o2:q63 ws (1=(↑1:Int)))
 (o3:q63 ws (1<=1/\1<=ws.length /\ ∀ (j:Nat),j < 1->Jcj default ws j=true))
 (o4:q63 ws (∀ (x3:Nat),q65 ws x3 (0<=(x3:Int))))
 (o5:q63 ws (∀ (x3:Nat),q65 ws x3 ((x3:Int) < (↑(ws.length):Int))))
 (o6:q63 ws (∀ (x3:Nat),q65 ws x3 (x3 < ws.length)))
 (o7:q63 ws (∀ (x3:Nat),q65 ws x3 (inI ((x3:Int) - 1))))
 (o8:q63 ws (∀ (x3:Nat),q65 ws x3 (0<=(x3:Int) - 1)))
 (o9:q63 ws (∀ (x3:Nat),q65 ws x3 ((x3:Int) - 1 < (↑(ws.length):Int))))
 (o10:q63 ws (∀ (x3:Nat),q65 ws x3 (((x3:Int) - 1).toNat < ws.length)))
 (o11:q63 ws (∀ (x3:Nat),q66 ws x3 (0<=(x3:Int))))
 (o12:q63 ws (∀ (x3:Nat),q66 ws x3 ((x3:Int) < (↑(ws.length):Int))))
 (o13:q63 ws (∀ (x3:Nat),q66 ws x3 ((x3:Int)=(↑((cpTo default ws (x3 + 1)).length):Int))))
 (o14:q63 ws (∀ (x3:Nat),q66 ws x3 (1=(↑1:Int))))
 (o15:q63 ws (∀ (x3:Nat),q66 ws x3 (∀ (i7:Nat),i7 < ws.length->JaJ (ws.getD i7 default)=JaJ (rowK default ws (x3 + 1) i7))))
 (o16:q63 ws (∀ (x3:Nat),q66 ws x3 (1<=1/\x3 + 1<=ws.length)))
 (o17:q63 ws (∀ (x3:Nat),q66 ws x3 (∀ (x6:Nat),q68 ws x3 x6 (0<=(x6:Int)))))
 (o18:q63 ws (∀ (x3:Nat),q66 ws x3 (∀ (x6:Nat),q68 ws x3 x6 ((x6:Int) < (↑(ws.length - x3):Int)))))
 (o19:q63 ws (∀ (x3:Nat),q66 ws x3 (∀ (x6:Nat),q68 ws x3 x6 (x3 + (ws.length - x3)<=ws.length))))
 (o20:q63 ws (∀ (x3:Nat),q66 ws x3 (∀ (x6:Nat),q68 ws x3 x6 (x3 + x6 < ws.length))))
 (o21:q63 ws (∀ (x3:Nat),q66 ws x3 (∀ (x6:Nat),q68 ws x3 x6 (inI ((x6:Int) - 1)))))
 (o22:q63 ws (∀ (x3:Nat),q66 ws x3 (∀ (x6:Nat),q68 ws x3 x6 (0<=(x6:Int) - 1))))
 (o23:q63 ws (∀ (x3:Nat),q66 ws x3 (∀ (x6:Nat),q68 ws x3 x6 ((x6:Int) - 1 < (↑(ws.length - x3):Int)))))
 (o24:q63 ws (∀ (x3:Nat),q66 ws x3 (∀ (x6:Nat),q68 ws x3 x6 (x3 + (ws.length - x3)<=ws.length))))
 (o25:q63 ws (∀ (x3:Nat),q66 ws x3 (∀ (x6:Nat),q68 ws x3 x6 (x3 + ((x6:Int) - 1).toNat < ws.length))))
 (o26:q63 ws (∀ (x3:Nat),q66 ws x3 (∀ (x6:Nat),q69 ws x3 x6 (0<=(x6:Int)))))
 (o27:q63 ws (∀ (x3:Nat),q66 ws x3 (∀ (x6:Nat),q69 ws x3 x6 ((x6:Int) < (↑(ws.length - x3):Int)))))
 (o28:q63 ws (∀ (x3:Nat),q66 ws x3 (∀ (x6:Nat),q69 ws x3 x6 (x3 + (ws.length - x3)<=ws.length))))
 (o29:q63 ws (∀ (x3:Nat),q66 ws x3 (∀ (x6:Nat),q69 ws x3 x6 (x3 + x6 < ws.length))))
 (o30:q63 ws (∀ (x3:Nat),q66 ws x3 (∀ (x6:Nat),q69 ws x3 x6 (0<=(↑((cpTo default ws (x3 + x6)).length):Int)))))
 (o31:q63 ws (∀ (x3:Nat),q66 ws x3 (∀ (x6:Nat),q69 ws x3 x6 ((↑((cpTo default ws (x3 + x6)).length):Int) < (↑(ws.length):Int)))))
 (o32:q63 ws (∀ (x3:Nat),q66 ws x3 (∀ (x6:Nat),q69 ws x3 x6 ((cpTo default ws (x3 + x6)).length < ws.length))))
 (o33:q63 ws (∀ (x3:Nat),q66 ws x3 (∀ (x6:Nat),q69 ws x3 x6 (inI ((↑((cpTo default ws (x3 + x6)).length):Int) + 1)))))
 (o34:q63 ws (∀ (x3:Nat),q66 ws x3 (∀ (x6:Nat),q69 ws x3 x6 (inI ((x6:Int) + 1)))))
 (o35:q63 ws (∀ (x3:Nat),q66 ws x3 (∀ (x6:Nat),q69 ws x3 x6 ((↑((cpTo default ws (x3 + x6)).length):Int) + 1=(↑((cpTo default ws (x3 + (x6 + 1))).length):Int)))))
 (o36:q63 ws (∀ (x3:Nat),q66 ws x3 (∀ (x6:Nat),q69 ws x3 x6 ((x6:Int) + 1=(↑(x6 + 1):Int)))))
 (o37:q63 ws (∀ (x3:Nat),q66 ws x3 (∀ (x6:Nat),q69 ws x3 x6 (∀ (i11:Nat),i11 < ws.length->Decidable.rec (fun (h:¬i11=(cpTo default ws (x3 + x6)).length)=>JaJ (rowK default ws (x3 + x6) i11)) (fun (h:i11=(cpTo default ws (x3 + x6)).length)=>[iv (rowK default ws (x3 + x6) (x3 + x6)).ad,iv (rowK default ws (x3 + x6) (x3 + x6)).day] ++ []) (instDecidableEqNat i11 (cpTo default ws (x3 + x6)).length)=JaJ (rowK default ws (x3 + (x6 + 1)) i11)))))
 (o38:q63 ws (∀ (x3:Nat),q66 ws x3 (∀ (x6:Nat),q69 ws x3 x6 (1<=x6 + 1/\x3 + (x6 + 1)<=ws.length))))
 (o39:q63 ws (∀ (x3:Nat),q66 ws x3 (∀ (x6:Nat),q69 ws x3 x6 (ws.length - (x6 + 1) < ws.length - x6))))
 (o40:q63 ws (∀ (x3:Nat),q66 ws x3 (∀ (x6:Nat),q6a ws x3 x6 (inI ((x6:Int) + 1)))))
 (o41:q63 ws (∀ (x3:Nat),q66 ws x3 (∀ (x6:Nat),q6a ws x3 x6 ((↑((cpTo default ws (x3 + x6)).length):Int)=(↑((cpTo default ws (x3 + (x6 + 1))).length):Int)))))
 (o42:q63 ws (∀ (x3:Nat),q66 ws x3 (∀ (x6:Nat),q6a ws x3 x6 ((x6:Int) + 1=(↑(x6 + 1):Int)))))
 (o43:q63 ws (∀ (x3:Nat),q66 ws x3 (∀ (x6:Nat),q6a ws x3 x6 (∀ (i13:Nat),i13 < ws.length->JaJ (rowK default ws (x3 + x6) i13)=JaJ (rowK default ws (x3 + (x6 + 1)) i13)))))
 (o44:q63 ws (∀ (x3:Nat),q66 ws x3 (∀ (x6:Nat),q6a ws x3 x6 (1<=x6 + 1/\x3 + (x6 + 1)<=ws.length))))
 (o45:q63 ws (∀ (x3:Nat),q66 ws x3 (∀ (x6:Nat),q6a ws x3 x6 (ws.length - (x6 + 1) < ws.length - x6))))
 (o46:q63 ws (∀ (x3:Nat),q66 ws x3 (∀ (x6:Nat),q6b ws x3 x6 (0<=(↑((cpTo default ws (x3 + x6)).length):Int)))))
 (o47:q63 ws (∀ (x3:Nat),q66 ws x3 (∀ (x6:Nat),q6b ws x3 x6 ((↑((cpTo default ws (x3 + x6)).length):Int) < (↑(ws.length):Int)))))
 (o48:q63 ws (∀ (x3:Nat),q66 ws x3 (∀ (x6:Nat),q6b ws x3 x6 ((cpTo default ws (x3 + x6)).length + (ws.length - (cpTo default ws (x3 + x6)).length)=ws.length))))
 (o49:q63 ws (∀ (x3:Nat),q66 ws x3 (∀ (x6:Nat),q6b ws x3 x6 (0 < ws.length - (cpTo default ws (x3 + x6)).length))))
 (o50:q63 ws (∀ (x3:Nat),q66 ws x3 (∀ (x6:Nat),q6b ws x3 x6 (∀ (i15:Nat),i15 < ws.length->Decidable.rec (fun (h:¬i15 < (cpTo default ws (x3 + x6)).length)=>[iv 0,iv 0]) (fun (h:i15 < (cpTo default ws (x3 + x6)).length)=>JaJ (rowK default ws (x3 + x6) i15)) (Nat.decLt i15 (cpTo default ws (x3 + x6)).length)=endK ws i15))))
 (o51:q63 ws (∀ (x3:Nat),q66 ws x3 (∀ (x6:Nat),q6b ws x3 x6 (0<=(↑((cpTo default ws (x3 + x6)).length):Int)))))
 (o52:q63 ws (∀ (x3:Nat),q66 ws x3 (∀ (x6:Nat),q6b ws x3 x6 ((↑((cpTo default ws (x3 + x6)).length):Int)<=(↑(ws.length):Int)))))
 (o53:q63 ws (∀ (x3:Nat),q66 ws x3 (∀ (x6:Nat),q6b ws x3 x6 ((cpTo default ws (x3 + x6)).length=(cpL default ws).length))))
 (o54:q63 ws (∀ (x3:Nat),q66 ws x3 (∀ (x6:Nat),q6b ws x3 x6 (∀ (i19:Nat),i19 < (cpL default ws).length->endK ws i19=JaJ ((cpL default ws).getD i19 default)))))
 (o55:q63 ws (∀ (x3:Nat),q6c ws x3 (inI ((x3:Int) + 1))))
 (o56:q63 ws (∀ (x3:Nat),q6c ws x3 ((x3:Int) + 1=(↑(x3 + 1):Int))))
 (o57:q63 ws (∀ (x3:Nat),q6c ws x3 (1<=x3 + 1/\x3 + 1<=ws.length /\ ∀ (j:Nat),j < x3 + 1->Jcj default ws j=true)))
 (o58:q63 ws (∀ (x3:Nat),q6c ws x3 (ws.length - (x3 + 1) < ws.length - x3)))
 (o59:q63 ws (∀ (x3:Nat),q64 ws x3 (decide ((x3:Int) < (↑(ws.length):Int))=false->ws.length=(cpL default ws).length)))
 (o60:q63 ws (∀ (x3:Nat),q64 ws x3 (decide ((x3:Int) < (↑(ws.length):Int))=false -> ∀ (i21:Nat),i21 < (cpL default ws).length->JaJ (ws.getD i21 default)=JaJ ((cpL default ws).getD i21 default))))
  (l:List (Nat × Nat)) (hl:l.map (·.1) = [0]) (hnd:(l.map (·.2)).Nodup) :
  Ja4 Tryz.prog 55 (IoSpec.at (io55 ws) l):=by
 refine JbU Tryz.func55 rfl Tryz.call55 Jaw (io55 ws) 1 l (by rw [hl]; kernel_rfl) hnd (Nat.le_of_ble_eq_true (by kernel_rfl)) (fun _ _ _ _ h=>h) ?_
 intro hpre C hC _ hE
 obtain ⟨P,w0,E0,av,hA,ro,df⟩:=C
 obtain ⟨rfl,rfl,rfl⟩:=hC
 refine Ja0 ?_
 refine zR [0] [0] (Ak 1 tv) ?_
 refine Ja0 ?_
 refine Ja0 ?_
 refine zR [0,8] [0] (Ak 3 tv) ?_
 refine zI (decide ((↑(ws.length):Int) < 2)) (fun y0 => ?_) (fun y0 => ?_)
 ·refine Ja0 ?_
  refine zR [2] [0] (Ak 2 tv) ?_
  refine Ja5 ?_
  exact zO (ASt.mk [(2,JdJ (cpL default ws))] [] 100) (zEn 1 hE [0] [] [] [] (An (An (An (zr 2) (An (o0 hpre y0) (fun (i1:Nat)=>(fun (y2:i1 < (cpL default ws).length)=>(o1 hpre y0 i1 y2))))) tv) (Ak 1 (An (zr true) (zr true))))) (An (Ak 1 tv) (An (zr (JdJ (cpL default ws))) tv))
 ·refine Ja3 ?_
  refine Ja0 ?_
  refine Ja0 ?_
  refine zR [0,3] [0] (Ak 1 tv) ?_
  refine Ja2 ?_
  refine zL (Hint.ann (h55a ws) [(0,AV.vec 0)] [(0,OB.vec 110 2 ws.length fun (i:Nat)=>JaJ (ws.getD i default))] 10041) (zEn 1 hE [] [(0,.same 0)] [] [0] (An (An (zr (some (Src.same 0))) (An (An (ci (o2 hpre y0)) (zr nilN)) tv)) (An (An (An (zr (OB.vec 110 2 ws.length fun (i:Nat)=>JaJ (ws.getD i default))) (zr true)) tv) (An (zr true) (zr true))))) (o3 hpre y0) (fun (x3:Nat) hx3 => ?_)
  refine Ja0 ?_
  refine Ja0 ?_
  refine zR [0,3,13] [0] (Ak 4 tv) ?_
  refine zI (decide ((x3:Int) < (↑(ws.length):Int))) (fun y4 => ?_) (fun y4 => ?_)
  ·refine Ja3 ?_
   refine Ja0 ?_
   refine Ja2 ?_
   refine Ja0 ?_
   refine zR [0,3,25] [0] (Ak 2 (An (An (o4 hpre y0 x3 hx3 y4) (o5 hpre y0 x3 hx3 y4)) (An (An (o6 hpre y0 x3 hx3 y4) tv) (Ak 2 (An (o7 hpre y0 x3 hx3 y4) (An (An (o8 hpre y0 x3 hx3 y4) (o9 hpre y0 x3 hx3 y4)) (An (An (o10 hpre y0 x3 hx3 y4) tv) (Ak 1 tv)))))))) ?_
   refine zI (decide ((ws.getD x3 default).ad=(ws.getD ((x3:Int) - 1).toNat default).ad) && (decide ((ws.getD x3 default).day=(ws.getD ((x3:Int) - 1).toNat default).day) && true)) (fun y5 => ?_) (fun y5 => ?_)
   ·refine Ja0 ?_
    refine zR [0,3,4] [0] (Ak 2 (An (An (o11 hpre y0 x3 hx3 y4 y5) (o12 hpre y0 x3 hx3 y4 y5)) (Ak 1 tv))) ?_
    refine Ja0 ?_
    refine Ja0 ?_
    refine zR [0,3,4,5] [0] (Ak 1 tv) ?_
    refine Ja2 ?_
    refine zL (Hint.ann (h55b ws x3) [(0,AV.vec 0),(4,AV.win 0 [PS.idx x3 2] 2 (ws.length - x3))] [] 20193) (zEn 1 hE [] [(0,.same 0)] [] [] (An (An (zr (some (Src.same 0))) (An (An (zr (some (Src.same 0))) (An (zr ([PS.idx x3 2])) (An (zr 2) (zr (ws.length - x3))))) (An (An (ci (o13 hpre y0 x3 hx3 y4 y5)) (zr nilN)) (An (An (ci (o14 hpre y0 x3 hx3 y4 y5)) (zr nilN)) tv)))) (An (An (An (zr 110) (An (zr 2) (An (zr ws.length) (fun (i7:Nat)=>(fun (y8:i7 < ws.length)=>(o15 hpre y0 x3 hx3 y4 y5 i7 y8)))))) tv) (An (zr true) (zr true))))) (o16 hpre y0 x3 hx3 y4 y5) (fun (x6:Nat) hx6 => ?_)
    refine Ja0 ?_
    refine Ja0 ?_
    refine zR [0,4,3,5,32] [0] (Ak 4 tv) ?_
    refine zI (decide ((x6:Int) < (↑(ws.length - x3):Int))) (fun y9 => ?_) (fun y9 => ?_)
    ·refine Ja3 ?_
     refine Ja0 ?_
     refine Ja2 ?_
     refine Ja0 ?_
     refine zR [0,4,3,5,44] [0] (Ak 2 (An (An (o17 hpre y0 x3 hx3 y4 y5 x6 hx6 y9) (An (o18 hpre y0 x3 hx3 y4 y5 x6 hx6 y9) (o19 hpre y0 x3 hx3 y4 y5 x6 hx6 y9))) (An (An (o20 hpre y0 x3 hx3 y4 y5 x6 hx6 y9) tv) (Ak 2 (An (o21 hpre y0 x3 hx3 y4 y5 x6 hx6 y9) (An (An (o22 hpre y0 x3 hx3 y4 y5 x6 hx6 y9) (An (o23 hpre y0 x3 hx3 y4 y5 x6 hx6 y9) (o24 hpre y0 x3 hx3 y4 y5 x6 hx6 y9))) (An (An (o25 hpre y0 x3 hx3 y4 y5 x6 hx6 y9) tv) (Ak 1 tv)))))))) ?_
     refine zI (!(decide ((rowK default ws (x3 + x6) (x3 + x6)).ad=(rowK default ws (x3 + x6) (x3 + ((x6:Int) - 1).toNat)).ad) && (decide ((rowK default ws (x3 + x6) (x3 + x6)).day=(rowK default ws (x3 + x6) (x3 + ((x6:Int) - 1).toNat)).day) && true))) (fun y10 => ?_) (fun y10 => ?_)
     ·refine Ja0 ?_
      refine zR [0,4,3,5] [0] (Ak 4 (An (An (o26 hpre y0 x3 hx3 y4 y5 x6 hx6 y9 y10) (An (o27 hpre y0 x3 hx3 y4 y5 x6 hx6 y9 y10) (o28 hpre y0 x3 hx3 y4 y5 x6 hx6 y9 y10))) (An (An (o29 hpre y0 x3 hx3 y4 y5 x6 hx6 y9 y10) tv) (An (An (o30 hpre y0 x3 hx3 y4 y5 x6 hx6 y9 y10) (o31 hpre y0 x3 hx3 y4 y5 x6 hx6 y9 y10)) (An (An (o32 hpre y0 x3 hx3 y4 y5 x6 hx6 y9 y10) tv) tv))))) ?_
      refine zR [0,4,3,5] [0] (Ak 1 (An (o33 hpre y0 x3 hx3 y4 y5 x6 hx6 y9 y10) (Ak 1 tv))) ?_
      refine zR [0,4,3,5] [0] (Ak 1 (An (o34 hpre y0 x3 hx3 y4 y5 x6 hx6 y9 y10) (Ak 1 tv))) ?_
      exact zn (zEn 1 hE [] [(0,.same 0)] [] [] (An (An (zr (some (Src.same 0))) (An (An (zr (some (Src.same 0))) (An (zr ([PS.idx x3 2])) (An (zr 2) (zr (ws.length - x3))))) (An (An (ci (o35 hpre y0 x3 hx3 y4 y5 x6 hx6 y9 y10)) (zr nilN)) (An (An (ci (o36 hpre y0 x3 hx3 y4 y5 x6 hx6 y9 y10)) (zr nilN)) tv)))) (An (An (An (zr 110) (An (zr 2) (An (zr ws.length) (fun (i11:Nat)=>(fun (y12:i11 < ws.length)=>(o37 hpre y0 x3 hx3 y4 y5 x6 hx6 y9 y10 i11 y12)))))) tv) (An (zr true) (zr true))))) (o38 hpre y0 x3 hx3 y4 y5 x6 hx6 y9 y10) (o39 hpre y0 x3 hx3 y4 y5 x6 hx6 y9 y10)
     ·refine Ja3 ?_
      refine zR [0,4,3,5] [0] (Ak 1 (An (o40 hpre y0 x3 hx3 y4 y5 x6 hx6 y9 y10) (Ak 1 tv))) ?_
      exact zn (zEn 1 hE [] [(0,.same 0)] [] [] (An (An (zr (some (Src.same 0))) (An (An (zr (some (Src.same 0))) (An (zr ([PS.idx x3 2])) (An (zr 2) (zr (ws.length - x3))))) (An (An (ci (o41 hpre y0 x3 hx3 y4 y5 x6 hx6 y9 y10)) (zr nilN)) (An (An (ci (o42 hpre y0 x3 hx3 y4 y5 x6 hx6 y9 y10)) (zr nilN)) tv)))) (An (An (An (zr 110) (An (zr 2) (An (zr ws.length) (fun (i13:Nat)=>(fun (y14:i13 < ws.length)=>(o43 hpre y0 x3 hx3 y4 y5 x6 hx6 y9 y10 i13 y14)))))) tv) (An (zr true) (zr true))))) (o44 hpre y0 x3 hx3 y4 y5 x6 hx6 y9 y10) (o45 hpre y0 x3 hx3 y4 y5 x6 hx6 y9 y10)
    ·refine Jaa ?_
     refine Ja0 ?_
     refine zR [0,3] [0] (Ak 2 (An (An (o46 hpre y0 x3 hx3 y4 y5 x6 hx6 y9) (o47 hpre y0 x3 hx3 y4 y5 x6 hx6 y9)) (An (An (o48 hpre y0 x3 hx3 y4 y5 x6 hx6 y9) (o49 hpre y0 x3 hx3 y4 y5 x6 hx6 y9)) tv))) ?_
     refine Ja0 ?_
     refine Jbi (zEn (st2:=ASt.mk [(0,AV.vec 0),(3,iv (↑((cpTo default ws (x3 + x6)).length):Int))] [(0,OB.vec 110 2 ws.length fun (q:Nat)=>endK ws q)] 20257) 1 hE [] [(0,.same 0)] [3] [] (An (An (zr (some (Src.same 0))) (An (An (zr (iv (↑((cpTo default ws (x3 + x6)).length):Int))) (zr true)) tv)) (An (An (An (zr 110) (An (zr 2) (An (zr ws.length) (fun (i15:Nat)=>(fun (y16:i15 < ws.length)=>(o50 hpre y0 x3 hx3 y4 y5 x6 hx6 y9 i15 y16)))))) tv) (An (zr true) (zr true))))) ?_
     refine Jbi (zEn (st2:=ASt.mk [(0,AV.sl 2 ws.length fun (q:Nat)=>endK ws q),(3,iv (↑((cpTo default ws (x3 + x6)).length):Int))] [] 20257) 1 hE [0] [] [3] [] (An (An (An (zr 2) (An (zr ws.length) (fun (i17:Nat)=>(fun (y18:i17 < ws.length)=>(zr (endK ws i17)))))) (An (An (zr (iv (↑((cpTo default ws (x3 + x6)).length):Int))) (zr true)) tv)) (Ak 1 (An (zr true) (zr true))))) ?_
     refine zR [2] [] (Ak 2 (An (An (o51 hpre y0 x3 hx3 y4 y5 x6 hx6 y9) (o52 hpre y0 x3 hx3 y4 y5 x6 hx6 y9)) (Ak 1 tv))) ?_
     refine Ja5 ?_
     exact zO (ASt.mk [(2,JdJ (cpL default ws))] [] 100) (zEn 1 hE [] [] [] [] (An (An (An (zr 2) (An (o53 hpre y0 x3 hx3 y4 y5 x6 hx6 y9) (fun (i19:Nat)=>(fun (y20:i19 < (cpL default ws).length)=>(o54 hpre y0 x3 hx3 y4 y5 x6 hx6 y9 i19 y20))))) tv) (Ak 1 (An (zr true) (zr true))))) (An (Ak 1 tv) (An (zr (JdJ (cpL default ws))) tv))
   ·refine Ja3 ?_
    refine zR [0,3] [0] (Ak 1 (An (o55 hpre y0 x3 hx3 y4 y5) (Ak 1 tv))) ?_
    exact zn (zEn 1 hE [] [(0,.same 0)] [] [0] (An (An (zr (some (Src.same 0))) (An (An (ci (o56 hpre y0 x3 hx3 y4 y5)) (zr nilN)) tv)) (An (An (An (zr (OB.vec 110 2 ws.length fun (i:Nat)=>JaJ (ws.getD i default))) (zr true)) tv) (An (zr true) (zr true))))) (o57 hpre y0 x3 hx3 y4 y5) (o58 hpre y0 x3 hx3 y4 y5)
  ·refine Jaa ?_
   refine Ja0 ?_
   refine zR [2] [0] (Ak 2 tv) ?_
   refine Ja5 ?_
   exact zO (ASt.mk [(2,JdJ (cpL default ws))] [] 100) (zEn 1 hE [0] [] [] [] (An (An (An (zr 2) (An (o59 hpre y0 x3 hx3 y4) (fun (i21:Nat)=>(fun (y22:i21 < (cpL default ws).length)=>(o60 hpre y0 x3 hx3 y4 i21 y22))))) tv) (Ak 1 (An (zr true) (zr true))))) (An (Ak 1 tv) (An (zr (JdJ (cpL default ws))) tv))
theorem Jql {α:Type} [DecidableEq α] {d:α} {l:List α} {x:Nat} (h:Jcj d l x=false):∀ {n:Nat},x < n->(cpTo d l n).length < n:=by
 intro n
 induction n with
 | zero=>intro h; omega
 | succ n ih =>
  intro hx
  by_cases e:x=n
  ·subst e; rw [Jiw h]; have:=Jkl d l x; omega
  ·have h1:=ih (by omega)
   cases h2:Jcj d l n with
   | true=>rw [Jkk h2,List.length_append]; simp; omega
   | false=>rw [Jiw h2]; omega
theorem JfM {α:Type} [DecidableEq α] {d:α} {l:List α}:∀ j,j < 1->Jcj d l j=true:=by
 intro j hj
 have:j=0:=by omega
 subst this; rfl
theorem t55 (b:Nat) (ws:List Sday):Ja4 Tryz.prog 55 (s55 b ws):=by
  apply wio55 ws (l:=[(0,b)]) (hl:=rfl) (hnd:=by simp)
  all_goals (try delta q62 q63 q64 q65 q66 q67 q68 q69 q6a q6b q6c)
  all_goals (intro hp hc; simp only [decide_eq_true_eq,decide_eq_false_iff_not] at hc)
  case o0=>rw [Jkm fun j hj=>JfM j (by omega)]
  case o1=>intro i hi; rw [Jkm fun j hj=>JfM j (by omega)]
  case o2=>rfl
  case o3=>exact ⟨by omega,by omega,JfM⟩
  all_goals (intro x hx; obtain ⟨x1,x2,x3⟩:=hx; intro hl; simp only [decide_eq_true_eq,decide_eq_false_iff_not] at hl)
  case o59=>rw [Jkm fun j hj=>x3 j (by omega)]
  case o60=>intro i hi; rw [Jkm fun j hj=>x3 j (by omega)]
  case o4 | o5 | o6 | o8 | o9 | o10=>all_goals omega
  case o7=>simp only [inI]; omega
  all_goals (have ex:((x:Int) - 1).toNat=x - 1:=by omega)
  all_goals (rw [ex,Jhk]; intro hd)
  case o57=>exact ⟨by omega,by omega,Jad x3 (by rw [JbX (by omega)]; simp only [decide_eq_false_iff_not] at hd; simp only [Bool.not_eq_true',decide_eq_false_iff_not]; exact fun e=>hd e.symm)⟩
  case o55=>simp only [inI]; omega
  case o56=>rfl
  case o58=>omega
  all_goals (have hn:Jcj default ws x=false:=by rw [JbX (by omega)]; simp only [decide_eq_true_eq] at hd; simp only [Bool.not_eq_false',decide_eq_true_eq]; exact hd.symm)
  all_goals (have hc1:cpTo default ws (x + 1)=ws.take x:=by rw [Jiw hn,Jgx (by omega) x3])
  case o11 | o12=>all_goals omega
  case o13=>rw [hc1,List.length_take]; omega
  case o14=>rfl
  case o15 =>
    intro i hi
    unfold rowK
    rw [hc1]
    split
    · rename_i h; rw [List.length_take] at h; rw [Jip _ _ (by omega)]
    · rfl
  case o16=>exact ⟨Nat.le_refl _,by omega⟩
  all_goals (intro k hk; obtain ⟨k1,k2⟩:=hk; intro hkl; simp only [decide_eq_true_eq,decide_eq_false_iff_not] at hkl)
  all_goals (have hlt:=Jql hn (n:=x + k) (by omega))
  case o50 =>
    have hall:x + k=ws.length:=by omega
    intro i hi
    rw [hall]
    refine Jqi (fun h=>(Jqh h).symm) (fun h => ?_)
    rw [Jne h]
    unfold rowK
    rw [if_pos h]; rfl
  case o53 => have hall : x + k = ws.length := by omega
              rw [hall]; rfl
  case o54=>intro i hi; rw [Jne hi]
  all_goals (try (first | omega | (simp only [inI]; omega)))
  all_goals (have ek:((k:Int) - 1).toNat=k - 1:=by omega)
  all_goals (rw [ek,JoI (Nat.le_refl _),Jn9 (show (cpTo default ws (x + k)).length<=x + (k - 1) by omega),Jhk])
  all_goals (intro hd2)
  all_goals (try (first | omega | (simp only [inI]; omega) | rfl))
  all_goals (have exk:x + (k - 1)=x + k - 1:=by omega)
  all_goals (rw [exk] at hd2)
  case o35 =>
    have:Jcj default ws (x + k)=true:=by rw [JbX (by omega)]; simp only [Bool.not_eq_true',decide_eq_false_iff_not] at hd2 ⊢; exact fun e=>hd2 e.symm
    rw [← Nat.add_assoc,Jkk this,List.length_append]; rfl
  case o37 =>
    have:Jcj default ws (x + k)=true:=by rw [JbX (by omega)]; simp only [Bool.not_eq_true',decide_eq_false_iff_not] at hd2 ⊢; exact fun e=>hd2 e.symm
    intro i hi
    rw [← Nat.add_assoc,rowK_t this]
    exact JdL (fun h=>by rw [if_neg h]) (fun h=>by rw [if_pos h]; rfl)
  case o41 =>
    have:Jcj default ws (x + k)=false:=by rw [JbX (by omega)]; simp only [Bool.not_eq_false',decide_eq_true_eq] at hd2 ⊢; exact hd2.symm
    rw [← Nat.add_assoc,Jiw this]
  case o43 =>
    have:Jcj default ws (x + k)=false:=by rw [JbX (by omega)]; simp only [Bool.not_eq_false',decide_eq_true_eq] at hd2 ⊢; exact hd2.symm
    intro i hi
    rw [← Nat.add_assoc,rowK_f this]
  all_goals (constructor <;> omega)
end Go.Ab
namespace Go.Sh
open Go.Ab
def notL (n:Int):Bool := !Ja1 n 0 9
def idxL (l:List Int):Int:=match l.findIdx? notL with | some i=>i | none => -1
def okDk (k:Nat) (d:Desk):Prop:=(∀ i,-10 * (k:Int)<=d.room i/\d.room i<=99)/\(∀ i,0<=d.used i/\d.used i<=k)/\0<=d.cost/\d.cost<=99 * (k:Int)
def Jjw (b:Book) (n:Nat) (i:Nat):Int:=if i < n then (ctB b i).room else 0
end Go.Sh
namespace Go.En
open Go Go.Ab Go.Sh
def cDk (b:Book) (ls:List Int) (d:Desk):List AV:=[vWk b,Ja6 ls,.arr 1 3 (fun i=>[iv (d.room i)]),.arr 1 3 (fun i=>[iv (d.used i)]),iv d.cost]
abbrev vDk (b:Book) (ls:List Int) (d:Desk):AV := .agg (cDk b ls d)
end Go.En
namespace Go.Ab
open Go Go.RowKit Go.Proofs Go.Sh Go.En
def s67c (l:List Int):CallSpec:={ args:=[Ja6 l,.clo 44 []],res:=iv (idxL l),pre:=l.length<=65536 }
def h67c (l:List Int):Hint:={ X:=Nat,M:=fun i=>[(8,iv i)],I:=fun i=>i<=l.length /\ ∀ j,j < i->notL (l.getD j 0)=false,mu:=fun i=>l.length - i,x0:=(0:Nat),nx:=fun i=>i + 1 }
def s43 (l:List Int):CallSpec:={ args:=[Ja6 l,.clo 44 []],res:=bv (anyW l),pre:=l.length<=65536 }
def c43 (l:List Int):CallSpec:=s67c l
def s36 (b:Book) (is:Bool):CallSpec:={ args:=[vBk b,bv is],res := .tup [.opt (JaR b && is) (cWk b),iv (JcZ b is)],pre:=JaZ b }
def h36 (b:Book) (is:Bool):Hint:={ X:=Nat,M:=fun i=>[(23,iv i)],H:=fun i=>[(96,.cells 103 [.sl 2 b.lines.length (fun i=>Jb6 (lnB b i)),.sl 3 b.shown.length (fun i=>cShn (shB b i)),iv b.rate,iv b.rep,.sl 4 b.ctrs.length (fun i=>cCtr (ctB b i)),.vec 5000]),(5000,rowS ((rawD b).take i))],I:=fun i=>i<=b.shown.length,mu:=fun i=>b.shown.length - i,x0:=(0:Nat),nx:=fun i=>i + 1 }
def c36a (b:Book) (is:Bool):CallSpec:=s53 5000 (rawD b)
def c36b (b:Book) (is:Bool):CallSpec:=s55 5000 (Jbx (rawD b))
def s28 (b:Book) (ls:List Int) (is:Bool):CallSpec:={ args:=[vBk b,Ja6 ls,bv is],res := .tup [.opt (JaR b && (is && JcF b ls)) (cWk b),iv (Jam b ls is)],pre:=JaZ b/\ls.length<=60000 }
def s68 (b:Book) (s:Sday) (ls:List Int):CallSpec:={ args:=[vWk b,JmW s,Ja6 ls],res:=iv (Jb1 b ls s),pre:=SoundB b/\JaL b ls/\s ∈ stds b }
def c68 (b:Book) (s:Sday) (ls:List Int):CallSpec:=s79 (stds b) ⟨s.ad,s.day - 1⟩
def s48 (b:Book) (ls:List Int):CallSpec:={ args:=[vWk b,Ja6 ls],res:=vDk b ls (JaG b),pre:=SoundB b }
def h48 (b:Book) (ls:List Int):Hint:={ X:=Nat,M:=fun i=>[(17,iv i)],H:=fun i=>[(32,.cells 100 [vWk b,Ja6 ls,.arr 1 3 (fun j=>[iv (Jjw b i j)]),.arr 1 3 (fun _=>[iv 0]),iv 0])],I:=fun i=>i<=b.ctrs.length,mu:=fun i=>b.ctrs.length - i,x0:=(0:Nat),nx:=fun i=>i + 1 }
def s47 (n:Nat) (b:Book) (ls:List Int) (d:Desk) (i:Nat) (y:Int) (k:Nat):CallSpec:=Jj5 n [] [iv i,iv y] 100 (cDk b ls d) (cDk b ls (Jb2 b ls d (sdA b i) y)) (SoundB b/\JaL b ls/\i < (stds b).length/\okDk k d/\k<=10) (bv (Jbl b ls d (sdA b i) y))
end Go.Ab
namespace Go.Ab
open Go Go.RowKit Go.Proofs Go.Sh Go.En
abbrev q6d (l:List Int) (Pq:Prop):Prop:=l.length<=65536->Pq
abbrev q6e (l:List Int) (x0:Nat) (Pq:Prop):Prop:=(x0<=l.length /\ ∀ (j:Nat),j < x0->notL (l.getD j 0)=false)->Pq
abbrev q6f (l:List Int) (x0:Nat) (Pq:Prop):Prop:=q6e l x0 (decide ((x0:Int) < (↑(l.length):Int))=true->Pq)
theorem w67c (l:List Int)
 (o0:List.length l<=65536->0=(↑0:Int))
 (o1:q6d l (0<=l.length /\ ∀ (j:Nat),j < 0->notL (l.getD j 0)=false))
 (o2:q6d l (∀ (x0:Nat),q6f l x0 (0<=(x0:Int))))
 (o3:q6d l (∀ (x0:Nat),q6f l x0 ((x0:Int) < (↑(l.length):Int))))
 (o4:q6d l (∀ (x0:Nat),q6f l x0 ((!Ja1 (l.getD x0 0) 0 9)=true->(x0:Int)=idxL l)))
 (o5:q6d l (∀ (x0:Nat),q6f l x0 ((!Ja1 (l.getD x0 0) 0 9)=false->inI ((x0:Int) + 1))))
 (o6:q6d l (∀ (x0:Nat),q6f l x0 ((!Ja1 (l.getD x0 0) 0 9)=false->(x0:Int) + 1=(↑(x0 + 1):Int))))
 (o7:q6d l (∀ (x0:Nat),q6f l x0 ((!Ja1 (l.getD x0 0) 0 9)=false->x0 + 1<=l.length /\ ∀ (j:Nat),j < x0 + 1->notL (l.getD j 0)=false)))
 (o8:q6d l (∀ (x0:Nat),q6f l x0 ((!Ja1 (l.getD x0 0) 0 9)=false->l.length - (x0 + 1) < l.length - x0)))
 (o9:q6d l (∀ (x0:Nat),q6e l x0 (decide ((x0:Int) < (↑(l.length):Int))=false -> -1=idxL l))) :
  Ja4 Tryz.prog 67 (s67c l):=by
 refine Ja7 Tryz.func67 rfl Tryz.call67 Jaw _ rfl rfl rfl rfl (Nat.le_of_ble_eq_true (by kernel_rfl)) (fun _ _ _ _ h=>h) ?_
 intro hpre C hC _ hE
 obtain ⟨P,w0,E0,av,hA,ro,df⟩:=C
 obtain ⟨rfl,rfl,rfl⟩:=hC
 refine Ja0 ?_
 refine zR [0,1] [] (Ak 1 tv) ?_
 refine Ja0 ?_
 refine Ja0 ?_
 refine zR [0,1,7,8] [] (Ak 3 tv) ?_
 refine Ja2 ?_
 refine zL (Hint.ann (h67c l) [(0,Ja6 l),(1,AV.clo 44 []),(7,iv (↑(l.length):Int))] [] 10032) (zE hE [] [] [0,1,7] [] (An (An (An (zr (Ja6 l)) (zr true)) (An (An (zr (AV.clo 44 [])) (zr true)) (An (An (zr (iv (↑(l.length):Int))) (zr true)) (An (An (ci (o0 hpre)) (zr nilN)) tv)))) (Ak 1 (An (zr true) (zr true))))) (o1 hpre) (fun (x0:Nat) hx0 => ?_)
 refine Ja0 ?_
 refine zR [0,1,7,8,9] [] (Ak 1 tv) ?_
 refine Ja0 ?_
 refine zI (decide ((x0:Int) < (↑(l.length):Int))) (fun y1 => ?_) (fun y1 => ?_)
 ·refine Ja3 ?_
  refine Ja0 ?_
  refine Ja2 ?_
  refine Ja0 ?_
  refine zR [0,1,7,8,5] [] (Ak 2 tv) ?_
  refine Ja0 ?_
  refine zC ([(5,CallSpec.eq (s44 (l.getD x0 0)) [true])]) [0,1,7,8,5,16] [] (Ak 3 (An (An (o2 hpre x0 hx0 y1) (o3 hpre x0 hx0 y1)) (Ak 1 (An (An (An (zr (iv (l.getD x0 0))) tv) (An (t44 (l.getD x0 0)) (Ak 2 (fun (i2:Env)=>tv)))) tv)))) ?_
  refine zI (!Ja1 (l.getD x0 0) 0 9) (fun y3 => ?_) (fun y3 => ?_)
  ·refine Ja0 ?_
   refine zR [4] [] (Ak 2 tv) ?_
   refine Ja5 ?_
   exact zT [] (An (Ak 1 tv) (An (An (ci (o4 hpre x0 hx0 y1 y3)) (zr nilN)) (An (zr true) (An (zr true) (zr true)))))
  ·refine Ja3 ?_
   refine zR [0,1,7,8] [] (An (o5 hpre x0 hx0 y1 y3) (Ak 1 tv)) ?_
   exact zn (zE hE [] [] [0,1,7] [] (An (An (An (zr (Ja6 l)) (zr true)) (An (An (zr (AV.clo 44 [])) (zr true)) (An (An (zr (iv (↑(l.length):Int))) (zr true)) (An (An (ci (o6 hpre x0 hx0 y1 y3)) (zr nilN)) tv)))) (Ak 1 (An (zr true) (zr true))))) (o7 hpre x0 hx0 y1 y3) (o8 hpre x0 hx0 y1 y3)
 ·refine Jaa ?_
  refine Ja0 ?_
  refine zR [4] [] (Ak 1 tv) ?_
  refine Ja5 ?_
  exact zT [] (An (Ak 1 tv) (An (An (ci (o9 hpre x0 hx0 y1)) (zr nilN)) (An (zr true) (An (zr true) (zr true)))))
theorem Jld {l:List Int} {x:Nat} (hx:x < l.length) (h:∀ j,j < x->notL (l.getD j 0)=false) (hp:notL (l.getD x 0)=true):idxL l=x:=by
 have:l.findIdx? notL=some x:=by
  rw [List.findIdx?_eq_some_iff_getElem]
  refine ⟨hx,by rw [← Jaf l 0 hx]; exact hp,fun j hj => ?_⟩
  rw [← Jaf l 0 (by omega),h j hj]; simp
 simp [idxL,this]
theorem Jng {l:List Int} (h:∀ j,j < l.length->notL (l.getD j 0)=false):idxL l = -1:=by
 have:l.findIdx? notL=none:=by
  rw [List.findIdx?_eq_none_iff]
  intro x hx
  have h1:=Jh6 l 0 notL h
  rw [List.any_eq_false] at h1
  simpa using h1 x hx
 simp [idxL,this]
theorem JoM (l:List Int):decide (0<=idxL l)=anyW l:=by
 unfold idxL anyW
 cases e:l.findIdx? notL with
 | none =>
  rw [List.findIdx?_eq_none_iff] at e
  have:(l.any fun n => !Ja1 n 0 9)=false:=by
   rw [List.any_eq_false]; intro y hy; have:=e y hy; unfold notL at this; rw [this]; simp
  rw [this]; rfl
 | some i =>
  rw [List.findIdx?_eq_some_iff_getElem] at e
  obtain ⟨h,h1,_⟩:=e
  have:(l.any fun n => !Ja1 n 0 9)=true:=List.any_eq_true.2 ⟨_,List.getElem_mem h,h1⟩
  rw [this]
  exact decide_eq_true (show 0<=((i:Nat):Int) by omega)
theorem t67c (l:List Int):Ja4 Tryz.prog 67 (s67c l):=by
 apply w67c
 all_goals (try delta q6d q6e q6f)
 case o4=>intro hp x hx hl h; simp only [decide_eq_true_eq] at hl; exact (Jld (by omega) hx.2 h).symm
 case o7=>intro hp x hx hl h; simp only [decide_eq_true_eq] at hl; exact ⟨by omega,Jad hx.2 h⟩
 case o9=>intro hp x hx hl; simp only [decide_eq_false_iff_not] at hl; exact (Jng fun j hj=>hx.2 j (by omega)).symm
 all_goals (try ((repeat intro _) <;> (try simp only [Bool.cond_true_left,Bool.cond_false_right,Bool.not_not,Bool.not_eq_true',Bool.not_eq_false',Bool.or_eq_true,Bool.or_eq_false_iff,Bool.and_eq_true,decide_eq_true_eq,decide_eq_false_iff_not,inI,big] at *) <;> first | (exact rfl) | omega | (exact ⟨Nat.zero_le _,fun j hj=>absurd hj (Nat.not_lt_zero j)⟩) | (simp_all; done) | (simp_all; omega)))
theorem w43 (l:List Int)
  (o0:l.length<=65536->decide (0<=idxL l)=anyW l) :
  Ja4 Tryz.prog 43 (s43 l):=by
 refine Ja7 Tryz.func43 rfl Tryz.call43 Jaw _ rfl rfl rfl rfl (Nat.le_of_ble_eq_true (by kernel_rfl)) (fun _ _ _ _ h=>h) ?_
 intro hpre C hC _ hE
 obtain ⟨P,w0,E0,av,hA,ro,df⟩:=C
 obtain ⟨rfl,rfl,rfl⟩:=hC
 refine Ja0 ?_
 refine zR [0,1] [] (Ak 1 tv) ?_
 refine Ja0 ?_
 refine zC ([(2,CallSpec.eq (c43 l) [true,true])]) [4] [] (Ak 2 (An (An (An (zr (Ja6 l)) (An (zr (AV.clo 44 [])) tv)) (An (t67c (l)) (An hpre (Ak 1 (fun (i0:Env)=>tv))))) (Ak 2 tv))) ?_
 refine Ja5 ?_
 exact zT [] (An (Ak 1 tv) (An (An (cb (o0 hpre)) (zr nilN)) (An (zr true) (An (zr true) (zr true)))))
theorem t43 (l:List Int):Ja4 Tryz.prog 43 (s43 l):=by
 apply w43
 intro _; exact JoM l
abbrev q6g (b:Book) (Pq:Prop):Prop:=JaZ b->Pq
abbrev q6h (b:Book) (Pq:Prop):Prop:=q6g b ((!decide (Jas b=0))=false->Pq)
abbrev q6i (b:Book) (is:Bool) (Pq:Prop):Prop:=q6h b ((!is)=false->Pq)
abbrev q6j (b:Book) (x3:Nat) (Pq:Prop):Prop:=x3<=b.shown.length->Pq
abbrev q6k (b:Book) (x3:Nat) (Pq:Prop):Prop:=q6j b x3 (decide ((x3:Int) < (↑(b.shown.length):Int))=true->Pq)
abbrev q6l (b:Book) (x3:Nat) (Pq:Prop):Prop:=q6j b x3 (decide ((x3:Int) < (↑(b.shown.length):Int))=false->Pq)
theorem w36 (b:Book) (is:Bool)
 (o0:q6g b ((!decide (Jas b=0))=true->(JaR b && is)=false))
 (o1:q6g b ((!decide (Jas b=0))=true->Jas b=JcZ b is))
 (o2:q6h b ((!is)=true->(JaR b && is)=false))
 (o3:q6h b ((!is)=true->1=JcZ b is))
 (o4:q6i b is (0=(↑0:Int)))
 (o5:q6i b is ((List.take 0 (rawD b)).length=0))
 (o6:q6i b is (0<=b.shown.length))
 (o7:q6i b is (∀ (x3:Nat),q6k b x3 (0<=(x3:Int))))
 (o8:q6i b is (∀ (x3:Nat),q6k b x3 ((x3:Int) < (↑(b.shown.length):Int))))
 (o9:q6i b is (∀ (x3:Nat),q6k b x3 ((List.take x3 (rawD b)).length + 1<=65536)))
 (o10:q6i b is (∀ (x3:Nat),q6k b x3 (inI ((x3:Int) + 1))))
 (o11:q6i b is (∀ (x3:Nat),q6k b x3 ((x3:Int) + 1=(↑(x3 + 1):Int))))
 (o12:q6i b is (∀ (x3:Nat),q6k b x3 ((List.take x3 (rawD b)).length + 1=(List.take (x3 + 1) (rawD b)).length)))
 (o13:q6i b is (∀ (x3:Nat),q6k b x3 (∀ (i17:Nat),i17 < (List.take x3 (rawD b)).length + 1->catF (List.take x3 (rawD b)).length (fun (i:Nat)=>JaJ ((List.take x3 (rawD b)).getD i default)) (fun (j:Nat)=>List.getD [[iv (shB b x3).ad,iv (shB b x3).day]] j (TI.za JpC)) i17=JaJ ((List.take (x3 + 1) (rawD b)).getD i17 default))))
 (o14:q6i b is (∀ (x3:Nat),q6k b x3 (x3 + 1<=b.shown.length)))
 (o15:q6i b is (∀ (x3:Nat),q6k b x3 (b.shown.length - (x3 + 1) < b.shown.length - x3)))
 (o16:q6i b is (∀ (x3:Nat),q6l b x3 ((rawD b).length<=12)))
 (o17:q6i b is (∀ (x3:Nat),q6l b x3 (okDs (rawD b))))
 (o18:q6i b is (∀ (x3:Nat),q6l b x3 (some (OB.vec 110 2 (List.take x3 (rawD b)).length fun (i:Nat)=>JaJ ((List.take x3 (rawD b)).getD i default))=some (OB.vec 110 2 (rawD b).length fun (i:Nat)=>JaJ ((rawD b).getD i default)))))
 (o19:q6i b is (∀ (x3:Nat),q6l b x3 ((Jbx (rawD b)).length<=65536)))
 (o20:q6i b is (∀ (x3:Nat),q6l b x3 ((JaR b && is)=true)))
 (o21:q6i b is (∀ (x3:Nat),q6l b x3 ((cpL default (Jbx (rawD b))).length=(stds b).length)))
 (o22:q6i b is (∀ (x3:Nat),q6l b x3 (∀ (i27:Nat),i27 < (stds b).length->JaJ ((cpL default (Jbx (rawD b))).getD i27 default)=JaJ ((stds b).getD i27 default))))
 (o23:q6i b is (∀ (x3:Nat),q6l b x3 (0=JcZ b is))) :
  Ja4 Tryz.prog 36 (s36 b is):=by
 refine Ja7 Tryz.func36 rfl Tryz.call36 Jaw _ rfl rfl rfl rfl (Nat.le_of_ble_eq_true (by kernel_rfl)) (fun _ _ _ _ h=>h) ?_
 intro hpre C hC _ hE
 obtain ⟨P,w0,E0,av,hA,ro,df⟩:=C
 obtain ⟨rfl,rfl,rfl⟩:=hC
 refine Ja0 ?_
 refine zR [1,2] [0] (Ak 3 tv) ?_
 refine Ja0 ?_
 refine Ja0 ?_
 refine zC ([(1,CallSpec.eq (s52 b) [true])]) [1,2,6] [0] (Ak 1 (An (An (An (zr (AV.agg (cBk b))) tv) (An (t52 (b)) (An hpre (Ak 1 (fun (i0:Env)=>tv))))) (Ak 1 tv))) ?_
 refine Ja0 ?_
 refine zR [1,2,6,13] [0] (Ak 2 tv) ?_
 refine zI (!decide (Jas b=0)) (fun y1 => ?_) (fun y1 => ?_)
 ·refine Ja0 ?_
  refine zR [4,5] [] (Ak 3 tv) ?_
  refine Ja5 ?_
  exact zT [] (An (Ak 2 tv) (An (An (o0 hpre y1) (An (An (ci (o1 hpre y1)) (zr nilN)) tv)) (An (zr true) (An (zr true) (zr true)))))
 ·refine Ja3 ?_
  refine Ja0 ?_
  refine Ja0 ?_
  refine zR [2,16] [0] (Ak 2 tv) ?_
  refine zI (!is) (fun y2 => ?_) (fun y2 => ?_)
  ·refine Ja0 ?_
   refine zR [4,5] [] (Ak 2 tv) ?_
   refine Ja5 ?_
   exact zT [] (An (Ak 2 tv) (An (An (o2 hpre y1 y2) (An (An (ci (o3 hpre y1 y2)) (zr nilN)) tv)) (An (zr true) (An (zr true) (zr true)))))
  ·refine Ja3 ?_
   refine Ja0 ?_
   refine zR [2,7] [0,96] (Ak 4 tv) ?_
   refine Ja0 ?_
   refine Ja0 ?_
   refine zR [7,21,22,23] [96] (Ak 4 tv) ?_
   refine Ja2 ?_
   refine zL (Hint.ann (h36 b is) [(7,AV.ptr 96 []),(21,AV.sl 3 b.shown.length fun (i:Nat)=>cShn (shB b i)),(22,iv (↑(b.shown.length):Int))] [] 10144) (zE hE [] [(96,.same 96),(5000,.nil)] [21,22] [] (An (An (An (zr (some (Src.same 96))) (zr nilP)) (An (An (zr (AV.sl 3 b.shown.length fun (i:Nat)=>cShn (shB b i))) (zr true)) (An (An (zr (iv (↑(b.shown.length):Int))) (zr true)) (An (An (ci (o4 hpre y1 y2)) (zr nilN)) tv)))) (An (An (An (zr 103) (An (An (An (zr 2) (An (zr b.lines.length) (fun (i4:Nat)=>(fun (y5:i4 < b.lines.length)=>(zr (Jb6 (lnB b i4))))))) (An (An (zr 3) (An (zr b.shown.length) (fun (i6:Nat)=>(fun (y7:i6 < b.shown.length)=>(zr (cShn (shB b i6))))))) (An (An (zr (iv b.rate)) (zr nilN)) (An (An (zr (iv b.rep)) (zr nilN)) (An (An (zr 4) (An (zr b.ctrs.length) (fun (i8:Nat)=>(fun (y9:i8 < b.ctrs.length)=>(zr (cCtr (ctB b i8))))))) (An (zr (some Src.nil)) tv)))))) (zr true))) (An (o5 hpre y1 y2) tv)) (An (zr true) (zr true))))) (o6 hpre y1 y2) (fun (x3:Nat) hx3 => ?_)
   refine Ja0 ?_
   refine zR [7,21,22,23,24] [96,5000] (Ak 1 tv) ?_
   refine Ja0 ?_
   refine zI (decide ((x3:Int) < (↑(b.shown.length):Int))) (fun y10 => ?_) (fun y10 => ?_)
   ·refine Ja3 ?_
    refine Ja0 ?_
    refine Ja2 ?_
    refine Ja0 ?_
    refine zR [7,21,22,23,9] [96,10168,5000] (An (An (o7 hpre y1 y2 x3 hx3 y10) (o8 hpre y1 y2 x3 hx3 y10)) (Ak 3 tv)) ?_
    refine zR [7,21,22,23] [96,10272] (Ak 11 (An (o9 hpre y1 y2 x3 hx3 y10) (Ak 3 tv))) ?_
    refine zR [7,21,22,23] [96,10272] (An (o10 hpre y1 y2 x3 hx3 y10) (Ak 1 tv)) ?_
    exact zn (zE hE [] [(96,.same 96),(5000,.same 10272)] [21,22] [] (An (An (An (zr (some (Src.same 96))) (zr nilP)) (An (An (zr (AV.sl 3 b.shown.length fun (i:Nat)=>cShn (shB b i))) (zr true)) (An (An (zr (iv (↑(b.shown.length):Int))) (zr true)) (An (An (ci (o11 hpre y1 y2 x3 hx3 y10)) (zr nilN)) tv)))) (An (An (An (zr 103) (An (An (An (zr 2) (An (zr b.lines.length) (fun (i11:Nat)=>(fun (y12:i11 < b.lines.length)=>(zr (Jb6 (lnB b i11))))))) (An (An (zr 3) (An (zr b.shown.length) (fun (i13:Nat)=>(fun (y14:i13 < b.shown.length)=>(zr (cShn (shB b i13))))))) (An (An (zr (iv b.rate)) (zr nilN)) (An (An (zr (iv b.rep)) (zr nilN)) (An (An (zr 4) (An (zr b.ctrs.length) (fun (i15:Nat)=>(fun (y16:i15 < b.ctrs.length)=>(zr (cCtr (ctB b i15))))))) (An (zr (some (Src.same 10272))) tv)))))) (zr true))) (An (An (zr 110) (An (zr 2) (An (o12 hpre y1 y2 x3 hx3 y10) (fun (i17:Nat)=>(fun (y18:i17 < (List.take x3 (rawD b)).length + 1)=>(o13 hpre y1 y2 x3 hx3 y10 i17 y18)))))) tv)) (An (zr true) (zr true))))) (o14 hpre y1 y2 x3 hx3 y10) (o15 hpre y1 y2 x3 hx3 y10)
   ·refine Jaa ?_
    refine Ja0 ?_
    refine zC ([(4,CallSpec.eq (c36a b is) [true,true])]) [7] [96,5000] (Ak 4 (An (An (An (zr (AV.vec 5000)) (An (zr (AV.clo 54 [])) tv)) (An (t53 (5000) (rawD b)) (An (An (o16 hpre y1 y2 x3 hx3 y10) (o17 hpre y1 y2 x3 hx3 y10)) (An (An (o18 hpre y1 y2 x3 hx3 y10) tv) (fun (i19:Env)=>tv))))) tv)) ?_
    refine Ja0 ?_
    refine zC ([(5,CallSpec.eq (c36b b is) [true])]) [7] [96] (Ak 5 (An (An (An (zr (AV.vec 5000)) tv) (An (t55 (5000) (Jbx (rawD b))) (An (o19 hpre y1 y2 x3 hx3 y10) (An (An (zr (some (OB.vec 110 2 (Jbx (rawD b)).length fun (i:Nat)=>JaJ ((Jbx (rawD b)).getD i default)))) tv) (fun (i20:Env)=>tv))))) (Ak 3 tv))) ?_
    refine Ja0 ?_
    refine Jbi (zF 96) ?_
    refine zR [4,5] [] (Ak 3 tv) ?_
    refine Ja5 ?_
    exact zT [] (An (Ak 2 tv) (An (An (An (o20 hpre y1 y2 x3 hx3 y10) (An (An (zr 2) (An (zr b.lines.length) (fun (i21:Nat)=>(fun (y22:i21 < b.lines.length)=>(zr (Jb6 (lnB b i21))))))) (An (An (zr 3) (An (zr b.shown.length) (fun (i23:Nat)=>(fun (y24:i23 < b.shown.length)=>(zr (cShn (shB b i23))))))) (An (zr (iv b.rate)) (An (zr (iv b.rep)) (An (An (zr 4) (An (zr b.ctrs.length) (fun (i25:Nat)=>(fun (y26:i25 < b.ctrs.length)=>(zr (cCtr (ctB b i25))))))) (An (An (zr 2) (An (o21 hpre y1 y2 x3 hx3 y10) (fun (i27:Nat)=>(fun (y28:i27 < (stds b).length)=>(o22 hpre y1 y2 x3 hx3 y10 i27 y28))))) tv))))))) (An (An (ci (o23 hpre y1 y2 x3 hx3 y10)) (zr nilN)) tv)) (An (zr true) (An (zr true) (zr true)))))
theorem raw_ok {b:Book} (hs:SoundB b):okDs (rawD b):=by
 intro q hq
 unfold rawD at hq ⊢
 rw [List.length_map] at hq
 have h:=hs.show_ q hq
 have h2:=hs.lines
 have e:sdG (b.shown.map fun s=>(⟨s.ad,s.day⟩:Sday)) q=⟨(shB b q).ad,(shB b q).day⟩:=by
  unfold sdG shB
  rw [Jaf _ _ (by simpa using hq),Jaf _ _ hq,List.getElem_map]
 rw [e]
 exact ⟨⟨by show _<=(shB b q).ad; omega,by show (shB b q).ad<=_; omega⟩,by show _<=(shB b q).day; omega,by show (shB b q).day<=_; omega⟩
theorem JfN (b:Book):(rawD b).length=b.shown.length:=by simp [rawD]
theorem Jqm {b:Book} {i:Nat} (h:i < b.shown.length):(rawD b).getD i default=⟨(shB b i).ad,(shB b i).day⟩:=by
 unfold rawD shB
 rw [Jaf _ _ (by simpa using h),Jaf _ _ h,List.getElem_map]
theorem Jhn {α:Type} (d:α) (c:α->List AV) (l:List α) (x:α) {g:Nat->List AV} (hg:g 0=c x):∀ i,i < l.length + 1->catF l.length (fun i=>c (l.getD i d)) g i=c ((l ++ [x]).getD i d):=by
 intro i hi
 rw [Jbf]
 unfold catF
 by_cases h:i < l.length
 ·rw [if_pos h,if_pos h]
 ·rw [if_neg h,if_neg h]
  have:i - l.length=0:=by omega
  rw [this,hg]; rfl
theorem t36 (b:Book) (is:Bool):Ja4 Tryz.prog 36 (s36 b is):=by
 apply w36
 all_goals (try delta q6g q6h q6i q6j q6k q6l)
 all_goals (intro hp h; rw [chk_b] at h)
 case o0=>simp only [Bool.not_eq_true'] at h; rw [h]; rfl
 case o1=>simp only [Bool.not_eq_true'] at h; unfold Jas JcZ; rw [h]; rfl
 all_goals (simp only [Bool.not_eq_false'] at h)
 all_goals (intro h2)
 case o2=>simp only [Bool.not_eq_true'] at h2; rw [h2,Bool.and_false]
 case o3=>simp only [Bool.not_eq_true'] at h2; unfold JcZ; rw [h,h2]; rfl
 all_goals (simp only [Bool.not_eq_false'] at h2; have hs:=Jci h; have hsh:=hs.shown)
 case o4=>rfl
 case o5=>rfl
 case o6=>omega
 all_goals (intro x hx hl; simp only [decide_eq_true_eq,decide_eq_false_iff_not] at hl)
 case o9=>rw [List.length_take]; omega
 case o12=>rw [List.length_take,List.length_take,JfN]; omega
 case o13 =>
  intro i hi
  rw [JaV _ default (by rw [JfN]; omega)]
  exact Jhn default JaJ _ _ (by rw [Jqm (by omega)]; rfl) i hi
 case o16=>rw [JfN]; omega
 case o17=>exact raw_ok hs
 case o18=>rw [List.take_of_length_le (by rw [JfN]; omega)]
 case o19=>rw [JfL,JfN]; omega
 case o20=>rw [h,h2]; rfl
 case o21=>rw [Jnd hs]
 case o22=>intro i hi; rw [Jnd hs]
 case o23=>unfold JcZ; rw [h,h2]; rfl
 all_goals (first | omega | rfl | (simp only [inI]; omega))
theorem w28 (b:Book) (ls:List Int) (is:Bool)
  (o0:JaZ b/\ls.length<=60000->(bif is then decide ((↑(ls.length):Int)=(↑(b.lines.length):Int)) else false)=true->ls.length<=65536)
  (o1:JaZ b/\ls.length<=60000->(JaR b && bif bif is then decide ((↑(ls.length):Int)=(↑(b.lines.length):Int)) else false then !anyW ls else false)=(JaR b && (is && JcF b ls)))
  (o2:JaZ b/\ls.length<=60000->JcZ b (bif bif is then decide ((↑(ls.length):Int)=(↑(b.lines.length):Int)) else false then !anyW ls else false)=Jam b ls is) :
  Ja4 Tryz.prog 28 (s28 b ls is):=by
 refine Ja7 Tryz.func28 rfl Tryz.call28 Jaw _ rfl rfl rfl rfl (Nat.le_of_ble_eq_true (by kernel_rfl)) (fun _ _ _ _ h=>h) ?_
 intro hpre C hC _ hE
 obtain ⟨P,w0,E0,av,hA,ro,df⟩:=C
 obtain ⟨rfl,rfl,rfl⟩:=hC
 refine Ja0 ?_
 refine zR [1,2,3] [0] (Ak 3 tv) ?_
 refine Ja0 ?_
 refine zC ([(11,CallSpec.eq (s43 ls) [false,true])]) [2,3] [0] (Ak 2 (An (fun (y0:is=true)=>(An (Ak 1 tv) tv)) (An (fun (y1:is=true)=>(An (An (fun (y2:is=true)=>y1) tv) tv)) (An (fun (y3:is=true)=>(An (Ak 1 tv) tv)) (An (fun (y4:is=true)=>(An (An (fun (y5:is=true)=>y4) tv) tv)) (An (fun (y6:is=true)=>(An (An (fun (y7:is=true)=>y6) tv) tv)) (An (fun (y8:is=true)=>(An (An (fun (y9:is=true)=>y8) (An (fun (y10:is=true)=>y8) tv)) tv)) (An (An (fun (y11:is=true)=>y11) (fun (y12:is=false)=>tv)) (Ak 1 (An (fun (y13:(bif is then decide ((↑(ls.length):Int)=(↑(b.lines.length):Int)) else false)=true)=>(An (Ak 1 tv) tv)) (An (fun (y14:(bif is then decide ((↑(ls.length):Int)=(↑(b.lines.length):Int)) else false)=true)=>(An (Ak 1 (An (fun (y15:(bif is then decide ((↑(ls.length):Int)=(↑(b.lines.length):Int)) else false)=true)=>y14) (Ak 1 tv))) (An (An (An (zr 1) (An (zr ls.length) (fun (i16:Nat)=>(fun (y17:i16 < ls.length)=>(zr ([iv (ls.getD i16 0)])))))) (An (zr (AV.clo 44 [])) tv)) (An (t43 (ls)) (An (o0 hpre y14) (Ak 1 (fun (i18:Env)=>tv))))))) (An (fun (y19:(bif is then decide ((↑(ls.length):Int)=(↑(b.lines.length):Int)) else false)=true)=>(An (An (fun (y20:(bif is then decide ((↑(ls.length):Int)=(↑(b.lines.length):Int)) else false)=true)=>y19) tv) tv)) (An (An (fun (y21:(bif is then decide ((↑(ls.length):Int)=(↑(b.lines.length):Int)) else false)=true)=>y21) (fun (y22:(bif is then decide ((↑(ls.length):Int)=(↑(b.lines.length):Int)) else false)=false)=>tv)) (Ak 1 tv)))))))))))))) ?_
 refine Ja0 ?_
 refine zC ([(2,CallSpec.eq (s36 b (bif bif is then decide ((↑(ls.length):Int)=(↑(b.lines.length):Int)) else false then !anyW ls else false)) [true,true])]) [6,7] [] (Ak 2 (An (An (An (zr (AV.agg (cBk b))) (An (zr (bv (bif bif is then decide ((↑(ls.length):Int)=(↑(b.lines.length):Int)) else false then !anyW ls else false))) tv)) (An (t36 (b) (bif bif is then decide ((↑(ls.length):Int)=(↑(b.lines.length):Int)) else false then !anyW ls else false)) (An hpre.1 (Ak 1 (fun (i23:Env)=>tv))))) (Ak 4 tv))) ?_
 refine Ja5 ?_
 exact zT [] (An (Ak 2 tv) (An (An (An (o1 hpre) (fun (y24:(JaR b && (is && JcF b ls))=true)=>(An (An (zr 2) (An (zr b.lines.length) (fun (i25:Nat)=>(fun (y26:i25 < b.lines.length)=>(zr (Jb6 (lnB b i25))))))) (An (An (zr 3) (An (zr b.shown.length) (fun (i27:Nat)=>(fun (y28:i27 < b.shown.length)=>(zr (cShn (shB b i27))))))) (An (zr (iv b.rate)) (An (zr (iv b.rep)) (An (An (zr 4) (An (zr b.ctrs.length) (fun (i29:Nat)=>(fun (y30:i29 < b.ctrs.length)=>(zr (cCtr (ctB b i29))))))) (An (An (zr 2) (An (zr (stds b).length) (fun (i31:Nat)=>(fun (y32:i31 < (stds b).length)=>(zr (JaJ ((stds b).getD i31 default))))))) tv)))))))) (An (An (ci (o2 hpre)) (zr nilN)) tv)) (An (zr true) (An (zr true) (zr true)))))
theorem Jnh (b:Book) (ls:List Int) (is:Bool):(bif bif is then decide ((ls.length:Int)=b.lines.length) else false then !anyW ls else false)=(is && JcF b ls):=by
 have e:anyW ls = !(ls.all fun n=>Ja1 n 0 9):=by
  unfold anyW
  rw [List.not_all_eq_any_not]
 unfold JcF
 rw [e,Bool.not_not,Bool.cond_false_right,Bool.cond_false_right,Bool.and_assoc]
 congr 2
 exact decide_eq_decide.2 (by omega)
theorem t28 (b:Book) (ls:List Int) (is:Bool):Ja4 Tryz.prog 28 (s28 b ls is):=by
 apply w28
 case o0=>intro hp h; have:=hp.2; omega
 case o1=>intro hp; rw [Jnh]
 case o2=>intro hp; unfold Jam; rw [Jnh]
 all_goals (intro hp; first | exact hp.1 | (intros; omega) | skip)
theorem Jix (b:Book):JcZ b true=Jas b:=by unfold JcZ Jas; cases JaR b <;> rfl
abbrev q6m (b:Book) (s:Sday) (ls:List Int) (Pq:Prop):Prop:=SoundB b/\JaL b ls/\s ∈ stds b->Pq
abbrev q6n (b:Book) (s:Sday) (ls:List Int) (Pq:Prop):Prop:=q6m b s ls (hasG (stds b) (Sday.mk s.ad (s.day - 1))=true->Pq)
abbrev q6o (b:Book) (s:Sday) (ls:List Int) (Pq:Prop):Prop:=q6m b s ls (hasG (stds b) (Sday.mk s.ad (s.day - 1))=false->Pq)
theorem w68 (b:Book) (s:Sday) (ls:List Int)
 (o0:q6m b s ls (inI (s.day - 1)))
 (o1:q6m b s ls ((stds b).length<=65536))
 (o2:q6n b s ls (0<=s.ad))
 (o3:q6n b s ls (s.ad < (↑(ls.length):Int)))
 (o4:q6n b s ls (inI (b.rep * ls.getD s.ad.toNat 0)))
 (o5:q6n b s ls (b.rep * ls.getD s.ad.toNat 0=Jb1 b ls s))
 (o6:q6o b s ls (0<=s.ad))
 (o7:q6o b s ls (s.ad < (↑(ls.length):Int)))
 (o8:q6o b s ls (inI (b.rate * ls.getD s.ad.toNat 0)))
 (o9:q6o b s ls (b.rate * ls.getD s.ad.toNat 0=Jb1 b ls s)) :
  Ja4 Tryz.prog 68 (s68 b s ls):=by
 refine Ja7 Tryz.func68 rfl Tryz.call68 Jaw _ rfl rfl rfl rfl (Nat.le_of_ble_eq_true (by kernel_rfl)) (fun _ _ _ _ h=>h) ?_
 intro hpre C hC _ hE
 obtain ⟨P,w0,E0,av,hA,ro,df⟩:=C
 obtain ⟨rfl,rfl,rfl⟩:=hC
 refine Ja0 ?_
 refine zR [0,2,4] [0] (Ak 2 tv) ?_
 refine Ja0 ?_
 refine zR [0,2,4,7] [0] (Ak 6 tv) ?_
 refine Ja0 ?_
 refine Ja0 ?_
 refine zC ([(10,CallSpec.eq (c68 b s ls) [true,false])]) [0,2,4,7,23] [0] (Ak 8 (An (o0 hpre) (Ak 1 (An (An (An (zr (JdJ (stds b))) (An (An (zr (iv s.ad)) (An (zr (iv (s.day - 1))) tv)) tv)) (An (t79 (stds b) (Sday.mk s.ad (s.day - 1))) (An (o1 hpre) (Ak 1 (fun (i0:Env)=>tv))))) tv)))) ?_
 refine zI (hasG (stds b) (Sday.mk s.ad (s.day - 1))) (fun y1 => ?_) (fun y1 => ?_)
 ·refine zR [2,4,7] [0] (Ak 6 tv) ?_
  refine Ja0 ?_
  refine zR [6] [] (Ak 4 (An (An (o2 hpre y1) (o3 hpre y1)) (Ak 1 (An (o4 hpre y1) (Ak 1 tv))))) ?_
  refine Ja5 ?_
  exact zT [] (An (Ak 1 tv) (An (An (ci (o5 hpre y1)) (zr nilN)) (An (zr true) (An (zr true) (zr true)))))
 ·refine Ja3 ?_
  refine Ja0 ?_
  refine zR [6] [] (Ak 4 (An (An (o6 hpre y1) (o7 hpre y1)) (Ak 1 (An (o8 hpre y1) (Ak 1 tv))))) ?_
  refine Ja5 ?_
  exact zT [] (An (Ak 1 tv) (An (An (ci (o9 hpre y1)) (zr nilN)) (An (zr true) (An (zr true) (zr true)))))
theorem Jqn {α:Type} [DecidableEq α] {l:List α} {x:α}:hasG l x=true ↔ x ∈ l:=by
 unfold hasG
 rw [List.any_eq_true]
 constructor
 ·rintro ⟨y,hy,h⟩; rw [decide_eq_true_eq] at h; rw [← h]; exact hy
 ·intro h; exact ⟨x,h,by simp⟩
theorem Jqo {b:Book} (hs:SoundB b) (a d:Int):hasG (stds b) ⟨a,d⟩=Jcg b a d:=by
 rw [Bool.eq_iff_iff,Jqn,JfI]
 constructor
 ·exact fun h=>h.2.2
 ·intro h
  refine ⟨?_,?_,h⟩ <;> unfold Jcg at h <;> obtain ⟨s,hm,h⟩:=List.any_eq_true.1 h <;> simp only [Bool.and_eq_true,decide_eq_true_eq] at h <;> obtain ⟨i,hi,e⟩:=List.getElem_of_mem hm <;> have h1:=hs.show_ i hi <;> unfold shB at h1 <;> rw [Jaf _ _ hi,e] at h1
  ·show 0<=d/\d < 14; omega
  ·show 0<=a/\a < _; omega
theorem Jpg {b:Book} {ls:List Int} (hl:JaL b ls) {s:Sday} (h:s ∈ stds b):0<=s.ad/\s.ad < ls.length:=by
 have:=(JfI.1 h).2.1
 have:=hl.1
 omega
theorem Jni {b:Book} {s:Sday} (h:s ∈ stds b):0<=s.day/\s.day < 14:=(JfI.1 h).1
theorem Jev {b:Book} (hs:SoundB b):(stds b).length<=6:=Nat.le_trans Jn1 hs.shown
theorem t68 (b:Book) (s:Sday) (ls:List Int):Ja4 Tryz.prog 68 (s68 b s ls):=by
 apply w68
 all_goals (try delta q6m q6n q6o)
 all_goals (rintro ⟨hs,hl,hm⟩; have hd:=Jni hm; have ha:=Jpg hl hm; have hr:=hs.rate; have hn:=Jev hs; have hg:=hl.2 s.ad.toNat)
 case o0=>simp only [inI]; omega
 case o1=>omega
 all_goals (intro h; rw [Jqo hs] at h)
 case o2 | o3=>all_goals omega
 case o6 | o7=>all_goals omega
 case o5=>unfold Jb1 JeD; rw [h]; rfl
 case o9=>unfold Jb1 JeD; rw [h]; rfl
 case o4 =>
  have h1:=Int.mul_nonneg hr.1 hg.1
  have h2:b.rep * ls.getD s.ad.toNat 0<=9 * 9:=Int.mul_le_mul (by omega) hg.2 hg.1 (by omega)
  simp only [inI]; omega
 case o8 =>
  have h1:=Int.mul_nonneg (show 0<=b.rate by omega) hg.1
  have h2:b.rate * ls.getD s.ad.toNat 0<=9 * 9:=Int.mul_le_mul (by omega) hg.2 hg.1 (by omega)
  simp only [inI]; omega
abbrev q6p (b:Book) (x0:Nat) (Pq:Prop):Prop:=x0<=b.ctrs.length->Pq
abbrev q6q (b:Book) (x0:Nat) (Pq:Prop):Prop:=q6p b x0 (decide ((x0:Int) < (↑(b.ctrs.length):Int))=true->Pq)
abbrev q6r (b:Book) (x0:Nat) (Pq:Prop):Prop:=q6p b x0 (decide ((x0:Int) < (↑(b.ctrs.length):Int))=false->Pq)
theorem w48 (b:Book) (ls:List Int)
 (o0:SoundB b->0=(↑0:Int))
 (o1:SoundB b -> ∀ (i3:Nat),i3 < 3 -> [iv 0] = [iv (Jjw b 0 i3)])
 (o2:SoundB b->0<=List.length (Book.ctrs b))
 (o3:SoundB b -> ∀ (x0:Nat),q6q b x0 (0<=(x0:Int)))
 (o4:SoundB b -> ∀ (x0:Nat),q6q b x0 ((x0:Int) < (↑(b.ctrs.length):Int)))
 (o5:SoundB b -> ∀ (x0:Nat),q6q b x0 (0<=(x0:Int)))
 (o6:SoundB b -> ∀ (x0:Nat),q6q b x0 ((x0:Int) < (↑3:Int)))
 (o7:SoundB b -> ∀ (x0:Nat),q6q b x0 (x0 < 3))
 (o8:SoundB b -> ∀ (x0:Nat),q6q b x0 (inI ((x0:Int) + 1)))
 (o9:SoundB b -> ∀ (x0:Nat),q6q b x0 ((x0:Int) + 1=(↑(x0 + 1):Int)))
 (o10:SoundB b -> ∀ (x0:Nat),q6q b x0 (∀ (i10:Nat),i10 < 3->Decidable.rec (fun (h:¬i10=x0)=>[iv (Jjw b x0 i10)]) (fun (h:i10=x0)=>[iv (ctB b x0).room] ++ []) (instDecidableEqNat i10 x0) = [iv (Jjw b (x0 + 1) i10)]))
 (o11:SoundB b -> ∀ (x0:Nat),q6q b x0 (x0 + 1<=b.ctrs.length))
 (o12:SoundB b -> ∀ (x0:Nat),q6q b x0 (b.ctrs.length - (x0 + 1) < b.ctrs.length - x0))
 (o13:SoundB b -> ∀ (x0:Nat),q6r b x0 (∀ (i16:Nat),i16 < 3 -> [iv (Jjw b x0 i16)] = [iv ((JaG b).room i16)]))
 (o14:SoundB b -> ∀ (x0:Nat),q6r b x0 (∀ (i18:Nat),i18 < 3 -> [iv 0] = [iv ((JaG b).used i18)]))
 (o15:SoundB b -> ∀ (x0:Nat),q6r b x0 (0=(JaG b).cost)) :
  Ja4 Tryz.prog 48 (s48 b ls):=by
 refine Ja7 Tryz.func48 rfl Tryz.call48 Jaw _ rfl rfl rfl rfl (Nat.le_of_ble_eq_true (by kernel_rfl)) (fun _ _ _ _ h=>h) ?_
 intro hpre C hC _ hE
 obtain ⟨P,w0,E0,av,hA,ro,df⟩:=C
 obtain ⟨rfl,rfl,rfl⟩:=hC
 refine Ja0 ?_
 refine zR [0,1,4] [0] (Ak 1 tv) ?_
 refine Ja0 ?_
 refine zR [0,4,5] [0,32] (Ak 5 tv) ?_
 refine Ja0 ?_
 refine Ja0 ?_
 refine zR [4,5,15,16,17] [0,32] (Ak 7 tv) ?_
 refine Ja2 ?_
 refine zL (Hint.ann (h48 b ls) [(4,AV.ptr 0 []),(5,AV.ptr 32 []),(15,AV.sl 4 b.ctrs.length fun (i:Nat)=>cCtr (ctB b i)),(16,iv (↑(b.ctrs.length):Int))] [(0,OB.cells 100 [AV.lit (Value.pointer none),nilv,AV.arr 1 3 fun (x:Nat)=>[iv 0],AV.arr 1 3 fun (x:Nat)=>[iv 0],iv 0])] 10104) (zE hE [] [(0,.same 0),(32,.same 32)] [15,16] [0] (An (An (An (zr (some (Src.same 0))) (zr nilP)) (An (An (zr (some (Src.same 32))) (zr nilP)) (An (An (zr (AV.sl 4 b.ctrs.length fun (i:Nat)=>cCtr (ctB b i))) (zr true)) (An (An (zr (iv (↑(b.ctrs.length):Int))) (zr true)) (An (An (ci (o0 hpre)) (zr nilN)) tv))))) (An (An (An (zr (OB.cells 100 [AV.lit (Value.pointer none),nilv,AV.arr 1 3 fun (x:Nat)=>[iv 0],AV.arr 1 3 fun (x:Nat)=>[iv 0],iv 0])) (zr true)) (An (An (zr 100) (An (An (An (zr (AV.rp (cWk b))) (zr nilN)) (An (An (zr 1) (An (zr ls.length) (fun (i1:Nat)=>(fun (y2:i1 < ls.length)=>(zr ([iv (ls.getD i1 0)])))))) (An (An (zr 1) (An (zr 3) (fun (i3:Nat)=>(fun (y4:i3 < 3)=>(o1 hpre i3 y4))))) (An (An (zr 1) (An (zr 3) (fun (i5:Nat)=>(fun (y6:i5 < 3)=>(zr ([iv 0])))))) (An (An (zr (iv 0)) (zr nilN)) tv))))) (zr true))) tv)) (An (zr true) (zr true))))) (o2 hpre) (fun (x0:Nat) hx0 => ?_)
 refine Ja0 ?_
 refine zR [4,5,15,16,17,18] [0,32] (Ak 1 tv) ?_
 refine Ja0 ?_
 refine zI (decide ((x0:Int) < (↑(b.ctrs.length):Int))) (fun y7 => ?_) (fun y7 => ?_)
 ·refine Ja3 ?_
  refine Ja0 ?_
  refine Ja2 ?_
  refine Ja0 ?_
  refine zR [4,5,15,16,17,7,6] [0,32,10136] (Ak 1 (An (An (o3 hpre x0 hx0 y7) (o4 hpre x0 hx0 y7)) (Ak 4 tv))) ?_
  refine zR [4,5,15,16,17] [0,32] (Ak 4 (An (An (o5 hpre x0 hx0 y7) (o6 hpre x0 hx0 y7)) (An (An (o7 hpre x0 hx0 y7) tv) tv))) ?_
  refine zR [4,5,15,16,17] [0,32] (An (o8 hpre x0 hx0 y7) (Ak 1 tv)) ?_
  exact zn (zE hE [] [(0,.same 0),(32,.same 32)] [15,16] [0] (An (An (An (zr (some (Src.same 0))) (zr nilP)) (An (An (zr (some (Src.same 32))) (zr nilP)) (An (An (zr (AV.sl 4 b.ctrs.length fun (i:Nat)=>cCtr (ctB b i))) (zr true)) (An (An (zr (iv (↑(b.ctrs.length):Int))) (zr true)) (An (An (ci (o9 hpre x0 hx0 y7)) (zr nilN)) tv))))) (An (An (An (zr (OB.cells 100 [AV.lit (Value.pointer none),nilv,AV.arr 1 3 fun (x:Nat)=>[iv 0],AV.arr 1 3 fun (x:Nat)=>[iv 0],iv 0])) (zr true)) (An (An (zr 100) (An (An (An (zr (AV.rp (cWk b))) (zr nilN)) (An (An (zr 1) (An (zr ls.length) (fun (i8:Nat)=>(fun (y9:i8 < ls.length)=>(zr ([iv (ls.getD i8 0)])))))) (An (An (zr 1) (An (zr 3) (fun (i10:Nat)=>(fun (y11:i10 < 3)=>(o10 hpre x0 hx0 y7 i10 y11))))) (An (An (zr 1) (An (zr 3) (fun (i12:Nat)=>(fun (y13:i12 < 3)=>(zr ([iv 0])))))) (An (An (zr (iv 0)) (zr nilN)) tv))))) (zr true))) tv)) (An (zr true) (zr true))))) (o11 hpre x0 hx0 y7) (o12 hpre x0 hx0 y7)
 ·refine Jaa ?_
  refine Ja0 ?_
  refine zR [4] [0] (Ak 2 tv) ?_
  refine Ja5 ?_
  exact zT [] (An (Ak 1 tv) (An (An (An (zr (AV.rp (cWk b))) (zr nilN)) (An (An (zr 1) (An (zr ls.length) (fun (i14:Nat)=>(fun (y15:i14 < ls.length)=>(zr ([iv (ls.getD i14 0)])))))) (An (An (zr 1) (An (zr 3) (fun (i16:Nat)=>(fun (y17:i16 < 3)=>(o13 hpre x0 hx0 y7 i16 y17))))) (An (An (zr 1) (An (zr 3) (fun (i18:Nat)=>(fun (y19:i18 < 3)=>(o14 hpre x0 hx0 y7 i18 y19))))) (An (An (ci (o15 hpre x0 hx0 y7)) (zr nilN)) tv))))) (An (zr true) (An (zr true) (zr true)))))
theorem t48 (b:Book) (ls:List Int):Ja4 Tryz.prog 48 (s48 b ls):=by
 apply w48
 all_goals (try delta q6p q6q q6r)
 all_goals (intro hs; have hc:=hs.ctrs)
 case o0=>rfl
 case o1=>intro i _; rfl
 case o2=>omega
 all_goals (intro x hx hl; simp only [decide_eq_true_eq,decide_eq_false_iff_not] at hl)
 case o10 =>
  intro i hi
  unfold Jjw
  refine JdL (fun h => ?_) (fun h => ?_)
  ·by_cases c:i < x
   ·rw [if_pos c,if_pos (by omega)]
   ·rw [if_neg c,if_neg (by omega)]
  ·rw [if_pos (by omega),h]; rfl
 case o13 =>
  intro i hi
  unfold Jjw JaG
  have:x=b.ctrs.length:=by omega
  subst this
  by_cases c:i < b.ctrs.length
  ·rw [if_pos c]
  ·rw [if_neg c]
   show _ = [iv (b.ctrs.getD i default).room]
   rw [JbY _ _ (by omega)]; rfl
 case o14=>intro i hi; rfl
 case o15=>rfl
 all_goals (first | omega | rfl | (simp only [inI]; omega) | (intros; omega))
abbrev q6s (b:Book) (ls:List Int) (d:Desk) (i:Nat) (k:Nat) (Pq:Prop):Prop:=SoundB b/\JaL b ls/\i < (stds b).length/\okDk k d/\k<=10->Pq
abbrev q6t (b:Book) (ls:List Int) (d:Desk) (i:Nat) (y:Int) (k:Nat) (Pq:Prop):Prop:=q6s b ls d i k (decide (y = -1)=false->Pq)
abbrev q6u (b:Book) (ls:List Int) (d:Desk) (i:Nat) (y:Int) (k:Nat) (Pq:Prop):Prop:=q6t b ls d i y k ((bif decide (y < 0) then true else decide ((↑(b.ctrs.length):Int)<=y))=false->Pq)
abbrev q6v (b:Book) (ls:List Int) (d:Desk) (i:Nat) (y:Int) (k:Nat) (Pq:Prop):Prop:=q6u b ls d i y k (decide ((Desk.mk d.room (setF d.used y.toNat (d.used y.toNat + 1)) d.cost).used y.toNat=1)=true->Pq)
abbrev q6w (b:Book) (ls:List Int) (d:Desk) (i:Nat) (y:Int) (k:Nat) (Pq:Prop):Prop:=q6v b ls d i y k (Ja1 ((stds b).getD i default).day (ctB b y.toNat).frm ((ctB b y.toNat).frm + (ctB b y.toNat).days - 1)=true->Pq)
abbrev q6x (b:Book) (ls:List Int) (d:Desk) (i:Nat) (y:Int) (k:Nat) (Pq:Prop):Prop:=q6u b ls d i y k (decide ((Desk.mk d.room (setF d.used y.toNat (d.used y.toNat + 1)) d.cost).used y.toNat=1)=false->Pq)
abbrev q6y (b:Book) (ls:List Int) (d:Desk) (i:Nat) (y:Int) (k:Nat) (Pq:Prop):Prop:=q6x b ls d i y k (Ja1 ((stds b).getD i default).day (ctB b y.toNat).frm ((ctB b y.toNat).frm + (ctB b y.toNat).days - 1)=true->Pq)
theorem w47 (n:Nat) (b:Book) (ls:List Int) (d:Desk) (i:Nat) (y:Int) (k:Nat)
 (o0:q6s b ls d i k (0<=(i:Int)))
 (o1:q6s b ls d i k ((i:Int) < (↑((stds b).length):Int)))
 (o2:q6s b ls d i k (decide (y = -1)=true->JaL b ls))
 (o3:q6s b ls d i k (decide (y = -1)=true->List.Mem ((stds b).getD i default) (stds b)))
 (o4:q6s b ls d i k (decide (y = -1)=true->inI (d.cost + Jb1 b ls ((stds b).getD i default))))
 (o5:q6s b ls d i k (decide (y = -1)=true->true=Jbl b ls d (sdA b i) y))
 (o6:q6s b ls d i k (decide (y = -1)=true -> [AV.rp (cWk b),Ja6 ls,AV.arr 1 3 fun (i:Nat)=>[iv (d.room i)],AV.arr 1 3 fun (i:Nat)=>[iv (d.used i)],iv (d.cost + Jb1 b ls ((stds b).getD i default))]=cDk b ls (Jb2 b ls d (sdA b i) y)))
 (o7:q6t b ls d i y k (decide (y < 0)=false->(!decide (y < 0))=true))
 (o8:q6t b ls d i y k ((bif decide (y < 0) then true else decide ((↑(b.ctrs.length):Int)<=y))=true->false=Jbl b ls d (sdA b i) y))
 (o9:q6t b ls d i y k ((bif decide (y < 0) then true else decide ((↑(b.ctrs.length):Int)<=y))=true->cDk b ls d=cDk b ls (Jb2 b ls d (sdA b i) y)))
 (o10:q6u b ls d i y k (0<=y))
 (o11:q6u b ls d i y k (y < (↑(b.ctrs.length):Int)))
 (o12:q6u b ls d i y k (0<=y))
 (o13:q6u b ls d i y k (y < (↑3:Int)))
 (o14:q6u b ls d i y k (y.toNat < 3))
 (o15:q6u b ls d i y k (inI (d.used y.toNat + 1)))
 (o16:q6u b ls d i y k (0<=y))
 (o17:q6u b ls d i y k (y < (↑3:Int)))
 (o18:q6u b ls d i y k (y.toNat < 3))
 (o19:q6u b ls d i y k (∀ (i30:Nat),i30 < 3->Decidable.rec (fun (h:¬i30=y.toNat)=>[iv (d.used i30)]) (fun (h:i30=y.toNat)=>[iv (d.used y.toNat + 1)] ++ []) (instDecidableEqNat i30 y.toNat) = [iv ((Desk.mk d.room (setF d.used y.toNat (d.used y.toNat + 1)) d.cost).used i30)]))
 (o20:q6u b ls d i y k (0<=y))
 (o21:q6u b ls d i y k (y < (↑3:Int)))
 (o22:q6u b ls d i y k (y.toNat < 3))
 (o23:q6v b ls d i y k (inI (d.cost + (ctB b y.toNat).pence)))
 (o24:q6v b ls d i y k (0<=y))
 (o25:q6v b ls d i y k (y < (↑3:Int)))
 (o26:q6v b ls d i y k (y.toNat < 3))
 (o27:q6v b ls d i y k (0<=((stds b).getD i default).ad))
 (o28:q6v b ls d i y k (((stds b).getD i default).ad < (↑(ls.length):Int)))
 (o29:q6v b ls d i y k (inI ((Desk.mk d.room (setF d.used y.toNat (d.used y.toNat + 1)) d.cost).room y.toNat - ls.getD ((stds b).getD i default).ad.toNat 0)))
 (o30:q6v b ls d i y k (0<=y))
 (o31:q6v b ls d i y k (y < (↑3:Int)))
 (o32:q6v b ls d i y k (y.toNat < 3))
 (o33:q6v b ls d i y k (∀ (i35:Nat),i35 < 3->Decidable.rec (fun (h:¬i35=y.toNat)=>[iv ((Desk.mk d.room (setF d.used y.toNat (d.used y.toNat + 1)) d.cost).room i35)]) (fun (h:i35=y.toNat)=>[iv ((Desk.mk d.room (setF d.used y.toNat (d.used y.toNat + 1)) d.cost).room y.toNat - ls.getD ((stds b).getD i default).ad.toNat 0)] ++ []) (instDecidableEqNat i35 y.toNat) = [iv ((Jb2 b ls d (sdA b i) y).room i35)]))
 (o34:q6v b ls d i y k (∀ (i37:Nat),i37 < 3 -> [iv ((Desk.mk d.room (setF d.used y.toNat (d.used y.toNat + 1)) d.cost).used i37)] = [iv ((Jb2 b ls d (sdA b i) y).used i37)]))
 (o35:q6v b ls d i y k (d.cost + (ctB b y.toNat).pence=(Jb2 b ls d (sdA b i) y).cost))
 (o36:q6v b ls d i y k (inI ((ctB b y.toNat).frm + (ctB b y.toNat).days)))
 (o37:q6v b ls d i y k (inI ((ctB b y.toNat).frm + (ctB b y.toNat).days - 1)))
 (o38:q6w b ls d i y k (0<=y))
 (o39:q6w b ls d i y k (y < (↑3:Int)))
 (o40:q6w b ls d i y k (y.toNat < 3))
 (o41:q6v b ls d i y k ((bif Ja1 ((stds b).getD i default).day (ctB b y.toNat).frm ((ctB b y.toNat).frm + (ctB b y.toNat).days - 1) then decide (0<=(Jb2 b ls d (sdA b i) y).room y.toNat) else false)=Jbl b ls d (sdA b i) y))
 (o42:q6x b ls d i y k (0<=y))
 (o43:q6x b ls d i y k (y < (↑3:Int)))
 (o44:q6x b ls d i y k (y.toNat < 3))
 (o45:q6x b ls d i y k (0<=((stds b).getD i default).ad))
 (o46:q6x b ls d i y k (((stds b).getD i default).ad < (↑(ls.length):Int)))
 (o47:q6x b ls d i y k (inI ((Desk.mk d.room (setF d.used y.toNat (d.used y.toNat + 1)) d.cost).room y.toNat - ls.getD ((stds b).getD i default).ad.toNat 0)))
 (o48:q6x b ls d i y k (0<=y))
 (o49:q6x b ls d i y k (y < (↑3:Int)))
 (o50:q6x b ls d i y k (y.toNat < 3))
 (o51:q6x b ls d i y k (∀ (i57:Nat),i57 < 3->Decidable.rec (fun (h:¬i57=y.toNat)=>[iv ((Desk.mk d.room (setF d.used y.toNat (d.used y.toNat + 1)) d.cost).room i57)]) (fun (h:i57=y.toNat)=>[iv ((Desk.mk d.room (setF d.used y.toNat (d.used y.toNat + 1)) d.cost).room y.toNat - ls.getD ((stds b).getD i default).ad.toNat 0)] ++ []) (instDecidableEqNat i57 y.toNat) = [iv ((Jb2 b ls d (sdA b i) y).room i57)]))
 (o52:q6x b ls d i y k (∀ (i59:Nat),i59 < 3 -> [iv ((Desk.mk d.room (setF d.used y.toNat (d.used y.toNat + 1)) d.cost).used i59)] = [iv ((Jb2 b ls d (sdA b i) y).used i59)]))
 (o53:q6x b ls d i y k (d.cost=(Jb2 b ls d (sdA b i) y).cost))
 (o54:q6x b ls d i y k (inI ((ctB b y.toNat).frm + (ctB b y.toNat).days)))
 (o55:q6x b ls d i y k (inI ((ctB b y.toNat).frm + (ctB b y.toNat).days - 1)))
 (o56:q6y b ls d i y k (0<=y))
 (o57:q6y b ls d i y k (y < (↑3:Int)))
 (o58:q6y b ls d i y k (y.toNat < 3))
 (o59:q6x b ls d i y k ((bif Ja1 ((stds b).getD i default).day (ctB b y.toNat).frm ((ctB b y.toNat).frm + (ctB b y.toNat).days - 1) then decide (0<=(Jb2 b ls d (sdA b i) y).room y.toNat) else false)=Jbl b ls d (sdA b i) y)) :
  Ja4 Tryz.prog 47 (s47 n b ls d i y k):=by
 refine JkJ Tryz.func47 rfl Tryz.call47 Jaw (n) ([]) ([iv (i:Int),iv y]) (100) (cDk b ls d) (cDk b ls (Jb2 b ls d (sdA b i) y)) (SoundB b/\JaL b ls/\i < (stds b).length/\okDk k d/\k<=10) (bv (Jbl b ls d (sdA b i) y)) rfl rfl rfl rfl (Nat.le_of_ble_eq_true (by kernel_rfl)) ?_
 intro hpre C hC hE
 obtain ⟨P,w0,E0,av,hA,ro,df⟩:=C
 obtain ⟨rfl,rfl,rfl⟩:=hC
 refine Ja0 ?_
 refine zR [0,1,2] [0] (Ak 1 tv) ?_
 refine Ja0 ?_
 refine zR [0,2,7] [0,89] (Ak 8 (An (An (o0 hpre) (o1 hpre)) (Ak 3 tv))) ?_
 refine Ja0 ?_
 refine Ja0 ?_
 refine zR [0,2,7,20] [0,89] (Ak 2 tv) ?_
 refine zI (decide (y = -1)) (fun y0 => ?_) (fun y0 => ?_)
 ·refine Ja0 ?_
  refine zC ([(13,CallSpec.eq (s68 b ((stds b).getD i default) ls) [true,true,true])]) [] [0] (Ak 13 (An (An (An (zr (AV.rp (cWk b))) (An (zr (AV.agg (JaJ ((stds b).getD i default)))) (An (zr (Ja6 ls)) tv))) (An (t68 (b) ((stds b).getD i default) (ls)) (An (An hpre.1 (An (o2 hpre y0) (o3 hpre y0))) (Ak 1 (fun (i1:Env)=>tv))))) (An (o4 hpre y0) (Ak 3 tv)))) ?_
  refine Ja0 ?_
  refine zR [6] [0] (Ak 1 tv) ?_
  refine Ja5 ?_
  exact zP ([AV.rp (cWk b),Ja6 ls,AV.arr 1 3 fun (i:Nat)=>[iv (d.room i)],AV.arr 1 3 fun (i:Nat)=>[iv (d.used i)],iv (d.cost + Jb1 b ls ((stds b).getD i default))]) (An (Ak 1 tv) (An (An (cb (o5 hpre y0)) (zr nilN)) (An (zr true) (An (zr true) (zr true))))) (o6 hpre y0)
 ·refine Ja3 ?_
  refine Ja0 ?_
  refine Ja0 ?_
  refine zR [0,2,7,52] [0,89] (Ak 3 (An (fun (y2:(!decide (y < 0))=true)=>(An (Ak 1 tv) tv)) (An (fun (y3:(!decide (y < 0))=true)=>(An (Ak 1 tv) tv)) (An (fun (y4:(!decide (y < 0))=true)=>(An (An (fun (y5:(!decide (y < 0))=true)=>y4) tv) tv)) (An (fun (y6:(!decide (y < 0))=true)=>(An (An (fun (y7:(!decide (y < 0))=true)=>y6) tv) tv)) (An (fun (y8:(!decide (y < 0))=true)=>(An (An (fun (y9:(!decide (y < 0))=true)=>y8) tv) tv)) (An (fun (y10:(!decide (y < 0))=true)=>(An (An (fun (y11:(!decide (y < 0))=true)=>y10) tv) tv)) (An (fun (y12:(!decide (y < 0))=true)=>(An (An (fun (y13:(!decide (y < 0))=true)=>y12) tv) tv)) (An (fun (y14:(!decide (y < 0))=true)=>(An (An (fun (y15:(!decide (y < 0))=true)=>y14) tv) tv)) (An (fun (y16:(!decide (y < 0))=true)=>(An (An (fun (y17:(!decide (y < 0))=true)=>y16) tv) tv)) (An (fun (y18:(!decide (y < 0))=true)=>(An (An (fun (y19:(!decide (y < 0))=true)=>y18) tv) tv)) (An (fun (y20:(!decide (y < 0))=true)=>(An (An (fun (y21:(!decide (y < 0))=true)=>y20) (An (fun (y22:(!decide (y < 0))=true)=>y20) tv)) tv)) (An (An (fun (y23:decide (y < 0)=true)=>tv) (fun (y24:decide (y < 0)=false)=>(o7 hpre y0 y24))) tv))))))))))))) ?_
  refine zI (bif decide (y < 0) then true else decide ((↑(b.ctrs.length):Int)<=y)) (fun y25 => ?_) (fun y25 => ?_)
  ·refine Ja0 ?_
   refine zR [6] [0] (Ak 1 tv) ?_
   refine Ja5 ?_
   exact zP (cDk b ls d) (An (Ak 1 tv) (An (An (cb (o8 hpre y0 y25)) (zr nilN)) (An (zr true) (An (zr true) (zr true))))) (o9 hpre y0 y25)
  ·refine Ja3 ?_
   refine Ja0 ?_
   refine zR [0,2,7,8] [0,89,329] (Ak 9 (An (An (o10 hpre y0 y25) (o11 hpre y0 y25)) (Ak 3 tv))) ?_
   refine Ja0 ?_
   refine Ja0 ?_
   refine zR [0,2,7,8] [0,89,329] (Ak 4 (An (An (o12 hpre y0 y25) (o13 hpre y0 y25)) (An (An (o14 hpre y0 y25) tv) (An (o15 hpre y0 y25) (Ak 2 (An (An (o16 hpre y0 y25) (o17 hpre y0 y25)) (An (An (o18 hpre y0 y25) tv) tv))))))) ?_
   refine Ja0 ?_
   refine Jbi (zEp (st2:=ASt.mk [(0,AV.ptr 0 []),(2,iv y),(7,AV.ptr 89 []),(8,AV.ptr 329 [])] [(0,OB.cells 100 (cDk b ls (Desk.mk d.room (setF d.used y.toNat (d.used y.toNat + 1)) d.cost))),(89,OB.cells 110 (JaJ ((stds b).getD i default))),(329,OB.cells 69 (cCtr (ctB b y.toNat)))] 433) hE [] [(0,.same 0),(89,.same 89),(329,.same 329)] [2] [89,329] (An (An (An (zr (some (Src.same 0))) (zr nilP)) (An (An (zr (iv y)) (zr true)) (An (An (zr (some (Src.same 89))) (zr nilP)) (An (An (zr (some (Src.same 329))) (zr nilP)) tv)))) (An (An (An (zr 100) (An (An (An (zr (AV.rp (cWk b))) (zr nilN)) (An (An (zr 1) (An (zr ls.length) (fun (i26:Nat)=>(fun (y27:i26 < ls.length)=>(zr ([iv (ls.getD i26 0)])))))) (An (An (zr 1) (An (zr 3) (fun (i28:Nat)=>(fun (y29:i28 < 3)=>(zr ([iv (d.room i28)])))))) (An (An (zr 1) (An (zr 3) (fun (i30:Nat)=>(fun (y31:i30 < 3)=>(o19 hpre y0 y25 i30 y31))))) (An (An (zr (iv d.cost)) (zr nilN)) tv))))) (zr true))) (An (An (zr (OB.cells 110 (JaJ ((stds b).getD i default)))) (zr true)) (An (An (zr (OB.cells 69 (cCtr (ctB b y.toNat)))) (zr true)) tv))) (An (zr true) (zr true))))) ?_
   refine zR [0,2,7,8,80] [0,89,329] (Ak 4 (An (An (o20 hpre y0 y25) (o21 hpre y0 y25)) (An (An (o22 hpre y0 y25) tv) (Ak 1 tv)))) ?_
   refine zI (decide ((Desk.mk d.room (setF d.used y.toNat (d.used y.toNat + 1)) d.cost).used y.toNat=1)) (fun y32 => ?_) (fun y32 => ?_)
   ·refine zR [0,2,7,8] [0,89,329] (Ak 6 (An (o23 hpre y0 y25 y32) (Ak 3 tv))) ?_
    refine Ja0 ?_
    refine zR [0,2,7,8] [0,89,329] (Ak 4 (An (An (o24 hpre y0 y25 y32) (o25 hpre y0 y25 y32)) (An (An (o26 hpre y0 y25 y32) tv) (Ak 6 (An (An (o27 hpre y0 y25 y32) (o28 hpre y0 y25 y32)) (Ak 1 (An (o29 hpre y0 y25 y32) (Ak 2 (An (An (o30 hpre y0 y25 y32) (o31 hpre y0 y25 y32)) (An (An (o32 hpre y0 y25 y32) tv) tv)))))))))) ?_
    refine Ja0 ?_
    refine Jbi (zEp (st2:=ASt.mk [(0,AV.ptr 0 []),(2,iv y),(7,AV.ptr 89 []),(8,AV.ptr 329 [])] [(0,OB.cells 100 (cDk b ls (Jb2 b ls d (sdA b i) y))),(89,OB.cells 110 (JaJ ((stds b).getD i default))),(329,OB.cells 69 (cCtr (ctB b y.toNat)))] 721) hE [] [(0,.same 0),(89,.same 89),(329,.same 329)] [2] [89,329] (An (An (An (zr (some (Src.same 0))) (zr nilP)) (An (An (zr (iv y)) (zr true)) (An (An (zr (some (Src.same 89))) (zr nilP)) (An (An (zr (some (Src.same 329))) (zr nilP)) tv)))) (An (An (An (zr 100) (An (An (An (zr (AV.rp (cWk b))) (zr nilN)) (An (An (zr 1) (An (zr ls.length) (fun (i33:Nat)=>(fun (y34:i33 < ls.length)=>(zr ([iv (ls.getD i33 0)])))))) (An (An (zr 1) (An (zr 3) (fun (i35:Nat)=>(fun (y36:i35 < 3)=>(o33 hpre y0 y25 y32 i35 y36))))) (An (An (zr 1) (An (zr 3) (fun (i37:Nat)=>(fun (y38:i37 < 3)=>(o34 hpre y0 y25 y32 i37 y38))))) (An (An (ci (o35 hpre y0 y25 y32)) (zr nilN)) tv))))) (zr true))) (An (An (zr (OB.cells 110 (JaJ ((stds b).getD i default)))) (zr true)) (An (An (zr (OB.cells 69 (cCtr (ctB b y.toNat)))) (zr true)) tv))) (An (zr true) (zr true))))) ?_
    refine zC ([(10,CallSpec.eq (s45 ((stds b).getD i default).day (ctB b y.toNat).frm ((ctB b y.toNat).frm + (ctB b y.toNat).days - 1)) [true,true,true])]) [6] [0] (Ak 8 (An (o36 hpre y0 y25 y32) (An (o37 hpre y0 y25 y32) (An (An (An (zr (iv ((stds b).getD i default).day)) (An (zr (iv (ctB b y.toNat).frm)) (An (zr (iv ((ctB b y.toNat).frm + (ctB b y.toNat).days - 1))) tv))) (An (t45 ((stds b).getD i default).day (ctB b y.toNat).frm ((ctB b y.toNat).frm + (ctB b y.toNat).days - 1)) (Ak 2 (fun (i39:Env)=>tv)))) (Ak 1 (An (fun (y40:Ja1 ((stds b).getD i default).day (ctB b y.toNat).frm ((ctB b y.toNat).frm + (ctB b y.toNat).days - 1)=true)=>(An (Ak 1 tv) tv)) (An (fun (y41:Ja1 ((stds b).getD i default).day (ctB b y.toNat).frm ((ctB b y.toNat).frm + (ctB b y.toNat).days - 1)=true)=>(An (Ak 1 tv) tv)) (An (fun (y42:Ja1 ((stds b).getD i default).day (ctB b y.toNat).frm ((ctB b y.toNat).frm + (ctB b y.toNat).days - 1)=true)=>(An (An (fun (y43:Ja1 ((stds b).getD i default).day (ctB b y.toNat).frm ((ctB b y.toNat).frm + (ctB b y.toNat).days - 1)=true)=>y42) tv) tv)) (An (fun (y44:Ja1 ((stds b).getD i default).day (ctB b y.toNat).frm ((ctB b y.toNat).frm + (ctB b y.toNat).days - 1)=true)=>(An (An (fun (y45:Ja1 ((stds b).getD i default).day (ctB b y.toNat).frm ((ctB b y.toNat).frm + (ctB b y.toNat).days - 1)=true)=>y44) tv) tv)) (An (fun (y46:Ja1 ((stds b).getD i default).day (ctB b y.toNat).frm ((ctB b y.toNat).frm + (ctB b y.toNat).days - 1)=true)=>(An (An (fun (y47:Ja1 ((stds b).getD i default).day (ctB b y.toNat).frm ((ctB b y.toNat).frm + (ctB b y.toNat).days - 1)=true)=>y46) (An (fun (y48:Ja1 ((stds b).getD i default).day (ctB b y.toNat).frm ((ctB b y.toNat).frm + (ctB b y.toNat).days - 1)=true)=>y46) tv)) (An (o38 hpre y0 y25 y32 y46) (o39 hpre y0 y25 y32 y46)))) (An (fun (y49:Ja1 ((stds b).getD i default).day (ctB b y.toNat).frm ((ctB b y.toNat).frm + (ctB b y.toNat).days - 1)=true)=>(An (An (fun (y50:Ja1 ((stds b).getD i default).day (ctB b y.toNat).frm ((ctB b y.toNat).frm + (ctB b y.toNat).days - 1)=true)=>y49) tv) (An (o40 hpre y0 y25 y32 y49) tv))) (An (fun (y51:Ja1 ((stds b).getD i default).day (ctB b y.toNat).frm ((ctB b y.toNat).frm + (ctB b y.toNat).days - 1)=true)=>(An (An (fun (y52:Ja1 ((stds b).getD i default).day (ctB b y.toNat).frm ((ctB b y.toNat).frm + (ctB b y.toNat).days - 1)=true)=>y51) (Ak 1 tv)) tv)) (An (An (fun (y53:Ja1 ((stds b).getD i default).day (ctB b y.toNat).frm ((ctB b y.toNat).frm + (ctB b y.toNat).days - 1)=true)=>y53) (fun (y54:Ja1 ((stds b).getD i default).day (ctB b y.toNat).frm ((ctB b y.toNat).frm + (ctB b y.toNat).days - 1)=false)=>tv)) (Ak 1 tv)))))))))))))) ?_
    refine Ja5 ?_
    exact zP (cDk b ls (Jb2 b ls d (sdA b i) y)) (An (Ak 1 tv) (An (An (cb (o41 hpre y0 y25 y32)) (zr nilN)) (An (zr true) (An (zr true) (zr true))))) rfl
   ·refine Ja3 ?_
    refine Ja0 ?_
    refine zR [0,2,7,8] [0,89,329] (Ak 4 (An (An (o42 hpre y0 y25 y32) (o43 hpre y0 y25 y32)) (An (An (o44 hpre y0 y25 y32) tv) (Ak 6 (An (An (o45 hpre y0 y25 y32) (o46 hpre y0 y25 y32)) (Ak 1 (An (o47 hpre y0 y25 y32) (Ak 2 (An (An (o48 hpre y0 y25 y32) (o49 hpre y0 y25 y32)) (An (An (o50 hpre y0 y25 y32) tv) tv)))))))))) ?_
    refine Ja0 ?_
    refine Jbi (zEp (st2:=ASt.mk [(0,AV.ptr 0 []),(2,iv y),(7,AV.ptr 89 []),(8,AV.ptr 329 [])] [(0,OB.cells 100 (cDk b ls (Jb2 b ls d (sdA b i) y))),(89,OB.cells 110 (JaJ ((stds b).getD i default))),(329,OB.cells 69 (cCtr (ctB b y.toNat)))] 641) hE [] [(0,.same 0),(89,.same 89),(329,.same 329)] [2] [89,329] (An (An (An (zr (some (Src.same 0))) (zr nilP)) (An (An (zr (iv y)) (zr true)) (An (An (zr (some (Src.same 89))) (zr nilP)) (An (An (zr (some (Src.same 329))) (zr nilP)) tv)))) (An (An (An (zr 100) (An (An (An (zr (AV.rp (cWk b))) (zr nilN)) (An (An (zr 1) (An (zr ls.length) (fun (i55:Nat)=>(fun (y56:i55 < ls.length)=>(zr ([iv (ls.getD i55 0)])))))) (An (An (zr 1) (An (zr 3) (fun (i57:Nat)=>(fun (y58:i57 < 3)=>(o51 hpre y0 y25 y32 i57 y58))))) (An (An (zr 1) (An (zr 3) (fun (i59:Nat)=>(fun (y60:i59 < 3)=>(o52 hpre y0 y25 y32 i59 y60))))) (An (An (ci (o53 hpre y0 y25 y32)) (zr nilN)) tv))))) (zr true))) (An (An (zr (OB.cells 110 (JaJ ((stds b).getD i default)))) (zr true)) (An (An (zr (OB.cells 69 (cCtr (ctB b y.toNat)))) (zr true)) tv))) (An (zr true) (zr true))))) ?_
    refine zC ([(10,CallSpec.eq (s45 ((stds b).getD i default).day (ctB b y.toNat).frm ((ctB b y.toNat).frm + (ctB b y.toNat).days - 1)) [true,true,true])]) [6] [0] (Ak 8 (An (o54 hpre y0 y25 y32) (An (o55 hpre y0 y25 y32) (An (An (An (zr (iv ((stds b).getD i default).day)) (An (zr (iv (ctB b y.toNat).frm)) (An (zr (iv ((ctB b y.toNat).frm + (ctB b y.toNat).days - 1))) tv))) (An (t45 ((stds b).getD i default).day (ctB b y.toNat).frm ((ctB b y.toNat).frm + (ctB b y.toNat).days - 1)) (Ak 2 (fun (i61:Env)=>tv)))) (Ak 1 (An (fun (y62:Ja1 ((stds b).getD i default).day (ctB b y.toNat).frm ((ctB b y.toNat).frm + (ctB b y.toNat).days - 1)=true)=>(An (Ak 1 tv) tv)) (An (fun (y63:Ja1 ((stds b).getD i default).day (ctB b y.toNat).frm ((ctB b y.toNat).frm + (ctB b y.toNat).days - 1)=true)=>(An (Ak 1 tv) tv)) (An (fun (y64:Ja1 ((stds b).getD i default).day (ctB b y.toNat).frm ((ctB b y.toNat).frm + (ctB b y.toNat).days - 1)=true)=>(An (An (fun (y65:Ja1 ((stds b).getD i default).day (ctB b y.toNat).frm ((ctB b y.toNat).frm + (ctB b y.toNat).days - 1)=true)=>y64) tv) tv)) (An (fun (y66:Ja1 ((stds b).getD i default).day (ctB b y.toNat).frm ((ctB b y.toNat).frm + (ctB b y.toNat).days - 1)=true)=>(An (An (fun (y67:Ja1 ((stds b).getD i default).day (ctB b y.toNat).frm ((ctB b y.toNat).frm + (ctB b y.toNat).days - 1)=true)=>y66) tv) tv)) (An (fun (y68:Ja1 ((stds b).getD i default).day (ctB b y.toNat).frm ((ctB b y.toNat).frm + (ctB b y.toNat).days - 1)=true)=>(An (An (fun (y69:Ja1 ((stds b).getD i default).day (ctB b y.toNat).frm ((ctB b y.toNat).frm + (ctB b y.toNat).days - 1)=true)=>y68) (An (fun (y70:Ja1 ((stds b).getD i default).day (ctB b y.toNat).frm ((ctB b y.toNat).frm + (ctB b y.toNat).days - 1)=true)=>y68) tv)) (An (o56 hpre y0 y25 y32 y68) (o57 hpre y0 y25 y32 y68)))) (An (fun (y71:Ja1 ((stds b).getD i default).day (ctB b y.toNat).frm ((ctB b y.toNat).frm + (ctB b y.toNat).days - 1)=true)=>(An (An (fun (y72:Ja1 ((stds b).getD i default).day (ctB b y.toNat).frm ((ctB b y.toNat).frm + (ctB b y.toNat).days - 1)=true)=>y71) tv) (An (o58 hpre y0 y25 y32 y71) tv))) (An (fun (y73:Ja1 ((stds b).getD i default).day (ctB b y.toNat).frm ((ctB b y.toNat).frm + (ctB b y.toNat).days - 1)=true)=>(An (An (fun (y74:Ja1 ((stds b).getD i default).day (ctB b y.toNat).frm ((ctB b y.toNat).frm + (ctB b y.toNat).days - 1)=true)=>y73) (Ak 1 tv)) tv)) (An (An (fun (y75:Ja1 ((stds b).getD i default).day (ctB b y.toNat).frm ((ctB b y.toNat).frm + (ctB b y.toNat).days - 1)=true)=>y75) (fun (y76:Ja1 ((stds b).getD i default).day (ctB b y.toNat).frm ((ctB b y.toNat).frm + (ctB b y.toNat).days - 1)=false)=>tv)) (Ak 1 tv)))))))))))))) ?_
    refine Ja5 ?_
    exact zP (cDk b ls (Jb2 b ls d (sdA b i) y)) (An (Ak 1 tv) (An (An (cb (o59 hpre y0 y25 y32)) (zr nilN)) (An (zr true) (An (zr true) (zr true))))) rfl
section
variable {b:Book} {ls:List Int} {d:Desk} {s:Sday} {y:Int}
theorem JoN:Jb2 b ls d s (-1) = { d with cost:=d.cost + Jb1 b ls s }:=by unfold Jb2; rw [if_pos rfl]
theorem Jho:isCt b y=true ↔ 0<=y/\y < b.ctrs.length:=by unfold isCt; rw [Go.Sh.JaB]; omega
theorem JfO (h:0<=y/\y < b.ctrs.length):Jb2 b ls d s y=⟨setF d.room y.toNat (d.room y.toNat - ls.getD s.ad.toNat 0),setF d.used y.toNat (d.used y.toNat + 1),if d.used y.toNat + 1=1 then d.cost + (ctB b y.toNat).pence else d.cost⟩:=by
 unfold Jb2; rw [if_neg (by omega),if_pos (Jho.2 h)]
theorem Jkn (h:y < 0 ∨ (b.ctrs.length:Int)<=y) (h1:y ≠ -1):Jb2 b ls d s y=d/\Jbl b ls d s y=false:=by
 have:isCt b y=false:=by
  cases e:isCt b y with
  | false=>rfl
  | true=>have:=Jho.1 e; omega
 unfold Jb2 Jbl
 rw [if_neg h1,if_neg h1,this]
 exact ⟨rfl,rfl⟩
theorem ok_ct (h:0<=y/\y < b.ctrs.length):Jbl b ls d s y=(Jq6 (ctB b y.toNat) s.day && decide (0<=d.room y.toNat - ls.getD s.ad.toNat 0)):=by
 unfold Jbl; rw [if_neg (by omega),Jho.2 h,Bool.true_and]
theorem Jec (g:Nat->Int) (k:Nat) (v:Int):setF g k v k=v:=if_pos rfl
theorem Jnj (g:Nat->Int) {k i:Nat} (v:Int) (h:i ≠ k):setF g k v i=g i:=if_neg h
end
theorem Jnk {k:Nat} {d:Desk} (h:okDk k d) (hk:k<=10) (i:Nat):(-100<=d.room i/\d.room i<=99)/\(0<=d.used i/\d.used i<=10)/\0<=d.cost/\d.cost<=990:=by
 have h1:=h.1 i
 have h2:=h.2.1 i
 have h3:=h.2.2
 refine ⟨⟨by omega,by omega⟩,⟨by omega,by omega⟩,by omega,by omega⟩
theorem t47 (n:Nat) (b:Book) (ls:List Int) (d:Desk) (i:Nat) (y:Int) (k:Nat):Ja4 Tryz.prog 47 (s47 n b ls d i y k):=by
 apply w47
 all_goals (try delta q6s q6t q6u q6v q6w q6x q6y)
 all_goals (rintro ⟨hs,hl,hi,hd,hk⟩)
 all_goals (have hm:(stds b).getD i default ∈ stds b:=Jbc _ _ hi)
 all_goals (have hday:=Jni hm; have had:=Jpg hl hm; have hsg:=Je8 hs hl (sdA b i); have hctr:=hs.ctrs)
 all_goals (have hdi:=Jnk hd hk 0)
 case o0=>omega
 case o1=>omega
 case o2=>intro _; exact hl
 case o3=>intro _; exact hm
 case o4=>intro _; unfold sdA at hsg; simp only [inI]; omega
 case o5=>intro h; rw [of_decide_eq_true h]; rfl
 case o6=>intro h; rw [of_decide_eq_true h,JoN]; rfl
 all_goals (intro h0; simp only [decide_eq_false_iff_not] at h0)
 case o7=>intro h; rw [h]; rfl
 case o8=>intro h; simp only [Bool.cond_true_left,Bool.or_eq_true,decide_eq_true_eq] at h; exact (Jkn h h0).2.symm
 case o9=>intro h; simp only [Bool.cond_true_left,Bool.or_eq_true,decide_eq_true_eq] at h; rw [(Jkn h h0).1]
 all_goals (intro h; simp only [Bool.cond_true_left,Bool.or_eq_false_iff,decide_eq_false_iff_not] at h)
 all_goals (have hc:0<=y/\y < b.ctrs.length:=by omega)
 all_goals (have hdy:=Jnk hd hk y.toNat; have hct:=hs.ctr y.toNat (by omega))
 case o10 | o11 | o12 | o13 | o14 | o16 | o17 | o18 | o20 | o21 | o22=>all_goals omega
 case o15=>simp only [inI]; omega
 case o19 =>
  intro j hj
  show _ = [iv (setF d.used y.toNat (d.used y.toNat + 1) j)]
  refine JdL (fun h => ?_) (fun h => ?_)
  ·rw [Jnj _ _ h]
  ·rw [h,Jec]; rfl
 all_goals (intro hu; simp only [Jec,decide_eq_true_eq,decide_eq_false_iff_not] at hu)
 all_goals (have hg:=hl.2 ((stds b).getD i default).ad.toNat)
 case o23=>simp only [inI]; omega
 case o29 | o47=>all_goals (show inI (d.room y.toNat - _); simp only [inI]; omega)
 case o33 | o51=>all_goals (
  intro j hj
  rw [JfO hc]
  refine JdL (fun h => ?_) (fun h => ?_)
  ·show _ = [iv (setF _ _ _ j)]
   rw [Jnj _ _ h]
  ·show _ = [iv (setF _ _ _ j)]
   rw [h,Jec]; rfl)
 case o34 | o52=>all_goals (intro j hj; rw [JfO hc])
 case o35=>rw [JfO hc]; show _=if _ then _ else _; rw [if_pos hu]
 case o53=>rw [JfO hc]; show _=if _ then _ else _; rw [if_neg hu]
 case o36 | o37 | o54 | o55=>all_goals (simp only [inI]; omega)
 case o41 | o59=>all_goals (
  rw [Bool.cond_false_right,JfO hc,ok_ct hc]
  show (_ && decide (0<=setF _ _ _ y.toNat))=_
  rw [Jec]; rfl)
 all_goals (try (intro _))
 all_goals omega
end Go.Ab
namespace Go.Sh
open Go.Ab
def okSt (st:Best):Prop := -1<=st.2/\st.2<=1000
def Jnl (b:Book) (ls:List Int) (m:Nat) (d:Desk) (l:List Int) (st:Best) (y:Int):Best:=if Jbl b ls d (sdA b l.length) y then JaO b ls m (Jb2 b ls d (sdA b l.length) y) (l ++ [y]) st else st
def Jan (b:Book) (ls:List Int) (m:Nat) (d:Desk) (l:List Int) (st:Best) (k:Nat):Best:=((bysB b).take k).foldl (Jnl b ls m d l) st
def Jae (b:Book) (l:List Int):Nat:=(stds b).length - l.length
def Jc0 (b:Book) (ls:List Int):Int:=if JaR b && JcF b ls then (Jb3 b ls).2 else 0
def JfP (b:Book):Span:=if JaR b then Jlc b else ⟨0,0⟩
end Go.Sh
namespace Go.Ab
open Go Go.RowKit Go.Proofs Go.Sh Go.En
abbrev rowZ (l:List Int):OB:=rowI 3 l
def JoO (b:Book):AV := .clo 46 [.ptr 0 [],.rp [vWk b],.ptr 1 [],.ptr 2 []]
def io46 (b:Book) (ls:List Int) (d:Desk) (ws:List Int) (st:Best):IoSpec:={ args:=[vDk b ls d,.vec 3,.ptr 0 [],.rp [vWk b],.ptr 1 [],.ptr 2 []],pre:=SoundB b/\JaL b ls/\ws.length<=(stds b).length/\okDk ws.length d/\okSt st,hin:=[(0,.cells 3 [iv st.2]),(1,.cells 27 [.vec 4]),(2,.cells 97 [JoO b]),(3,rowZ ws),(4,rowZ st.1)],res := .tup [],hout:=[(0,.cells 3 [iv (JaO b ls (Jae b ws) d ws st).2]),(1,.cells 27 [.vec 7]),(2,.cells 97 [JoO b]),(7,rowZ (JaO b ls (Jae b ws) d ws st).1)] }
def h46 (b:Book) (ls:List Int) (d:Desk) (ws:List Int) (st:Best):Hint:={ X:=Nat,M:=fun k=>[(8,iv ((k:Int) - 1))],H:=fun k=>[(0,.cells 3 [iv (Jan b ls (Jae b ws - 1) d ws st k).2]),(1,.cells 27 [.vec 6001]),(6001,rowZ (Jan b ls (Jae b ws - 1) d ws st k).1)],I:=fun k=>k<=b.ctrs.length + 1,mu:=fun k=>b.ctrs.length + 1 - k,x0:=(0:Nat),nx:=fun k=>k + 1 }
def s46 (i3 i4 i5:Nat) (b:Book) (ls:List Int) (d:Desk) (ws:List Int) (st:Best):CallSpec:=(io46 b ls d ws st).at [(0,0),(1,1),(2,2),(3,i3),(4,i4),(7,i5)]
def c46b (b:Book) (ls:List Int) (d:Desk) (ws:List Int) (st:Best) (x:Nat):CallSpec:=s47 10222 b ls d ws.length ((x:Int) - 1) ws.length
def c46r (b:Book) (ls:List Int) (d:Desk) (ws:List Int) (st:Best) (x:Nat) (id:Nat):CallSpec:=s46 (id - 8) 6001 id b ls (Jb2 b ls d (sdA b ws.length) ((x:Int) - 1)) (ws ++ [(x:Int) - 1]) (Jan b ls (Jae b ws - 1) d ws st x)
def Jqp (b:Book) (ls:List Int):IoSpec:={ args:=[vDk b ls (JaG b),nilv,.ptr 0 [],.rp [vWk b],.ptr 1 [],.ptr 2 []],pre:=SoundB b/\JaL b ls,hin:=[(0,.cells 3 [iv (-1)]),(1,.cells 27 [.vec 4]),(2,.cells 97 [JoO b]),(4,rowZ [])],res := .tup [],hout:=[(0,.cells 3 [iv (Jb3 b ls).2]),(1,.cells 27 [.vec 7]),(2,.cells 97 [JoO b]),(7,rowZ (Jb3 b ls).1)] }
def s46n (i0 i1 i2 i4 i5:Nat) (b:Book) (ls:List Int):CallSpec:=(Jqp b ls).at [(0,i0),(1,i1),(2,i2),(4,i4),(7,i5)]
def h46n (b:Book) (ls:List Int):Hint:=h46 b ls (JaG b) [] ([],-1)
def c46nb (b:Book) (ls:List Int) (x:Nat):CallSpec:=s47 10222 b ls (JaG b) 0 ((x:Int) - 1) 0
def c46nr (b:Book) (ls:List Int) (x:Nat) (id:Nat):CallSpec:=c46r b ls (JaG b) [] ([],-1) x id
def focB8:CallSpec:={ args:=[],res := .any }
def ou29 (b:Book) (ls:List Int):OutSpec:={ args:=[vWk b,Ja6 ls],pre:=SoundB b/\JaL b ls,res := .tup [.vec 0,iv (Jb3 b ls).2],hout:=[(0,rowZ (Jb3 b ls).1)] }
def s29o (b:Book) (ls:List Int) (id:Nat):CallSpec:=(ou29 b ls).at [(0,id)]
def c29 (b:Book) (ls:List Int) (id:Nat):CallSpec:=s46n 16 8 32 9 id b ls
def ou56 (b:Book):OutSpec:={ args:=[vWk b],pre:=SoundB b,res := .tup [.vec 0,.vec 1],hout:=[(0,rowZ (Jbq b)),(1,rowZ (JaS b))] }
def s56o (b:Book) (id:Nat):CallSpec:=(ou56 b).at [(0,id),(1,id + 1)]
def h56 (b:Book):Hint:={ X:=Nat,M:=fun i=>[(2,.vec 5000),(3,.vec 5001),(12,iv i)],H:=fun i=>[(5000,rowZ ((Jbq b).take i)),(5001,rowZ ((JaS b).take i))],I:=fun i=>i<=b.lines.length,mu:=fun i=>b.lines.length - i,x0:=(0:Nat),nx:=fun i=>i + 1 }
def s37 (b:Book):CallSpec:={ args:=[vWk b],res:=Jjc (Jlc b),pre:=SoundB b }
def c37e (b:Book) (id:Nat):CallSpec:=s56o b id
def c37l (b:Book) (id:Nat):CallSpec:=s29o b (Jbq b) id
def c37h (b:Book) (id:Nat):CallSpec:=s29o b (JaS b) id
def s13 (b:Book) (ls:List Int):CallSpec:={ args:=[vBk b,Ja6 ls],res := .tup [iv (Jc0 b ls),iv (Jam b ls true)],pre:=JaZ b/\ls.length<=60000 }
def c13 (b:Book) (ls:List Int) (id:Nat):CallSpec:=s29o b ls id
def c22 (b:Book):CallSpec:=s37 b
def s22 (b:Book):CallSpec:={ args:=[vBk b],res := .tup [Jjc (JfP b),iv (Jas b)],pre:=JaZ b }
end Go.Ab
namespace Go.Sh
open Go.Ab
variable {b:Book} {ls l:List Int} {d:Desk} {st:Best}
theorem Jnm (b:Book):(bysB b).length=b.ctrs.length + 1:=by simp [bysB]
theorem Jqq {k:Nat} (h:k < b.ctrs.length + 1):(bysB b).getD k 0=(k:Int) - 1:=by
 unfold bysB
 rw [Jaf _ _ (by simpa using h),List.getElem_map,List.getElem_range]
theorem JdM {m k:Nat} (h:k < b.ctrs.length + 1):Jan b ls m d l st (k + 1)=Jnl b ls m d l (Jan b ls m d l st k) ((k:Int) - 1):=by
 unfold Jan
 rw [JaV _ 0 (by rw [Jnm]; exact h),List.foldl_append,Jqq h]; rfl
theorem Jiy (h0:0<=st.2) (h:st.2<=d.cost):∀ m,JaO b ls m d l st=st:=by
 intro m
 cases m <;> rw [JaO,if_pos (by simp [h0,h])]
theorem JfQ (h:¬ (0<=st.2/\st.2<=d.cost)):JaO b ls 0 d l st=(l,d.cost):=by
 rw [JaO,if_neg (by simpa using h)]
theorem JoP {m:Nat} (h:¬ (0<=st.2/\st.2<=d.cost)):JaO b ls (m + 1) d l st=Jan b ls m d l st (b.ctrs.length + 1):=by
 rw [JaO,if_neg (by simpa using h)]
 unfold Jan
 rw [List.take_of_length_le (by rw [Jnm]; exact Nat.le_refl _)]
 rfl
theorem Jhp (hs:SoundB b) (hl:JaL b ls) {k:Nat} (hd:okDk k d) (s:Sday) (y:Int):okDk (k + 1) (Jb2 b ls d s y):=by
 obtain ⟨h1,h2,h3,h4⟩:=hd
 have hsg:=Je8 hs hl s
 have hln:=hl.2 s.ad.toNat
 unfold Jb2
 split
 ·refine ⟨fun i => ?_,fun i => ?_,?_,?_⟩
  ·have:=h1 i; simp only; omega
  ·have:=h2 i; simp only; omega
  ·simp only; omega
  ·simp only; omega
 ·split
  ·rename_i hc
   have hc:=Je7 hc
   have hp:=(hs.ctr y.toNat (by omega)).2.2.2
   refine ⟨fun i => ?_,fun i => ?_,?_,?_⟩
   ·have:=h1 i; have:=h1 y.toNat
    simp only [setF]; split <;> omega
   ·have:=h2 i; have:=h2 y.toNat
    simp only [setF]; split <;> omega
   ·simp only; split <;> omega
   ·simp only; split <;> omega
  ·refine ⟨fun i => ?_,fun i => ?_,?_,?_⟩
   ·have:=h1 i; omega
   ·have:=h2 i; omega
   ·omega
   ·omega
theorem JoQ (hs:SoundB b):okDk 0 (JaG b):=by
 refine ⟨fun i => ?_,fun i=>⟨Int.le_refl _,Int.le_refl _⟩,Int.le_refl _,Int.le_refl _⟩
 show -10 * ((0:Nat):Int)<=(ctB b i).room/\(ctB b i).room<=99
 by_cases h:i < b.ctrs.length
 ·have:=(hs.ctr i h).2.2.1; omega
 ·have:ctB b i=default:=JbY _ _ (by omega)
  rw [this]; show _<=(0:Int)/\(0:Int)<=99; omega
theorem Jqr (hs:SoundB b) (hl:JaL b ls):∀ (m k:Nat) (d:Desk) (l:List Int) (st:Best),okDk k d->k + m<=10->okSt st->okSt (JaO b ls m d l st):=by
 intro m
 induction m with
 | zero =>
  intro k d l st hd hk ho
  rw [JaO]
  split
  ·exact ho
  ·have:=hd.2.2
   exact ⟨by show -1<=d.cost; omega,by show d.cost<=1000; omega⟩
 | succ m ih =>
  intro k d l st hd hk ho
  rw [JaO]
  split
  ·exact ho
  ·have key:∀ (ys:List Int) (st:Best),okSt st->okSt (ys.foldl (fun st y=>if Jbl b ls d (sdA b l.length) y then JaO b ls m (Jb2 b ls d (sdA b l.length) y) (l ++ [y]) st else st) st):=by
    intro ys
    induction ys with
    | nil=>intro st h; exact h
    | cons y ys ih2 =>
     intro st h
     rw [List.foldl_cons]
     refine ih2 _ ?_
     split
     ·exact ih (k + 1) _ _ _ (Jhp hs hl hd _ _) (by omega) h
     ·exact h
   exact key _ _ ho
theorem Jiz (hs:SoundB b) (hl:JaL b ls) {m k:Nat} (hd:okDk k d) (hk:k + m < 10) (ho:okSt st):∀ n,n<=b.ctrs.length + 1->okSt (Jan b ls m d l st n):=by
 intro n
 induction n with
 | zero=>intro _; exact ho
 | succ n ih =>
  intro h
  rw [JdM (by omega)]
  unfold Jnl
  split
  ·exact Jqr hs hl m (k + 1) _ _ _ (Jhp hs hl hd _ _) (by omega) (ih (by omega))
  ·exact ih (by omega)
theorem Jnn {b:Book} {ls:List Int} (h:JcF b ls=true):JaL b ls:=Jeb h
end Go.Sh
