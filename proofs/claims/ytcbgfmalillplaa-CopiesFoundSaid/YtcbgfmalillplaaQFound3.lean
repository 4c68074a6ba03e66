/- Part 3 of the proof: own library, plain forms and walks. -/
import Derived.Test.YtcbgfmalillplaaQFound2
set_option linter.all false
set_option linter.deprecated false
namespace Go.Ab
open Go Go.RowKit Go.Proofs Go.Sh Go.En
abbrev z121_1 (r:Run) (first:List Int):LoopAnn:=Hint.ann (h121 r first) [(1,aInts first),(2,AV.ptr 0 []),(6,aInts (fnd r first.length).frm)] [(0,OB.cells 25 (cRun r))] 10144
abbrev q121_1 (r:Run) (first:List Int) (C:Prop):Prop:=okRun r=true/\first.length<=r.found.length->decide ((↑(first.length):Int)=(↑(r.found.length):Int))=true->C
abbrev q121_2 (r:Run) (first:List Int) (C:Prop):Prop:=okRun r=true/\first.length<=r.found.length->decide ((↑(first.length):Int)=(↑(r.found.length):Int))=false->C
abbrev q121_3 (r:Run) (first:List Int) (C:Nat->Prop):Prop:=q121_2 r first (∀ (x3:Nat),x3<=(fnd r first.length).frm.length->decide ((x3:Int) < (↑((fnd r first.length).frm.length):Int))=true->C x3)
abbrev q121_4 (r:Run) (first:List Int) (C:Nat->Prop):Prop:=q121_2 r first (∀ (x3:Nat),x3<=(fnd r first.length).frm.length->decide ((x3:Int) < (↑((fnd r first.length).frm.length):Int))=false->C x3)
theorem w121 (r:Run) (first:List Int)
 (o0:q121_1 r first (1=(choices r first).length))
 (o1:q121_1 r first (∀ (i1:Nat),i1 < (choices r first).length->List.getD [[AV.sl 1 first.length fun (i:Nat)=>[iv (first.getD i 0)]]] i1 (TI.za ti30) = [aInts ((choices r first).getD i1 [])]))
 (o2:q121_2 r first (0<=(↑(first.length):Int)))
 (o3:q121_2 r first ((↑(first.length):Int) < (↑(r.found.length):Int)))
 (o4:q121_2 r first (0=(↑0:Int)))
 (o5:q121_2 r first ((chAcc r first 0).length=0))
 (o6:q121_2 r first (0<=(fnd r first.length).frm.length))
 (o7:q121_3 r first fun x3=>0 + first.length<=65536)
 (o8:q121_3 r first fun x3=>0<=(x3:Int))
 (o9:q121_3 r first fun x3=>(x3:Int) < (↑((fnd r first.length).frm.length):Int))
 (o10:q121_3 r first fun x3=>0 + first.length + 1<=65536)
 (o11:q121_3 r first fun x3=>0 + first.length + 1=(first ++ [(fnd r first.length).frm.getD x3 0]).length)
 (o12:q121_3 r first fun x3 => ∀ (i5:Nat),i5 < (first ++ [(fnd r first.length).frm.getD x3 0]).length->catF (0 + first.length) (fun (i:Nat)=>[iv (first.getD i 0)]) (fun (j:Nat)=>List.getD [[iv ((fnd r first.length).frm.getD x3 0)]] j (TI.za ti3)) i5 = [iv ((first ++ [(fnd r first.length).frm.getD x3 0]).getD i5 0)])
 (o13:q121_3 r first fun x3=>Triple Try.prog 121 (c121 r first x3))
 (o14:q121_3 r first fun x3=>(first ++ [(fnd r first.length).frm.getD x3 0]).length<=r.found.length)
 (o15:q121_3 r first fun x3=>(chAcc r first x3).length + (choices r (first ++ [(fnd r first.length).frm.getD x3 0])).length<=65536)
 (o16:q121_3 r first fun x3=>inI ((x3:Int) + 1))
 (o17:q121_3 r first fun x3=>(x3:Int) + 1=(↑(x3 + 1):Int))
 (o18:q121_3 r first fun x3=>(chAcc r first x3).length + (choices r (first ++ [(fnd r first.length).frm.getD x3 0])).length=(chAcc r first (x3 + 1)).length)
 (o19:q121_3 r first fun x3 => ∀ (i8:Nat),i8 < (chAcc r first x3).length + (choices r (first ++ [(fnd r first.length).frm.getD x3 0])).length->catF (chAcc r first x3).length (fun (k:Nat)=>[aInts ((chAcc r first x3).getD k [])]) (fun (i:Nat)=>[aInts ((choices r (first ++ [(fnd r first.length).frm.getD x3 0])).getD i [])]) i8 = [aInts ((chAcc r first (x3 + 1)).getD i8 [])])
 (o20:q121_3 r first fun x3=>x3 + 1<=(fnd r first.length).frm.length)
 (o21:q121_3 r first fun x3=>(fnd r first.length).frm.length - (x3 + 1) < (fnd r first.length).frm.length - x3)
 (o22:q121_4 r first fun x3=>(chAcc r first x3).length=(choices r first).length)
 (o23:q121_4 r first fun x3 => ∀ (i10:Nat),i10 < (choices r first).length -> [aInts ((chAcc r first x3).getD i10 [])] = [aInts ((choices r first).getD i10 [])]) :
  Triple Try.prog 121 (s121 r first):=by
 refine triple_of Try.func121 rfl Try.call121 T0_ok _ rfl rfl rfl rfl (Nat.le_of_ble_eq_true (by kernel_rfl)) (fun _ _ _ _ h=>h) ?_
 intro hp C hC _ hE
 obtain ⟨P,w0,E0,av,hA⟩:=C
 subst hC
 refine swp_seq ?_
 refine sQ (kt:=[1,2]) (kh:=[0]) (q:=tn 2) (st':=ASt.mk [(1,aInts first),(2,.ptr 0 [])] [(0,.cells 25 (cRun r))] 16) (tp 2) ?_
 refine swp_seq (swp_seq ?_)
 refine sQ (kt:=[1,2,13]) (kh:=[0]) (q:=tn 6) (st':=ASt.mk [(1,aInts first),(2,.ptr 0 []),(13,bv (decide ((↑(first.length):Int)=(↑(r.found.length):Int))))] [(0,.cells 25 (cRun r))] 64) (tp 6) ?_
 refine swp_cond (decide ((↑(first.length):Int)=(↑(r.found.length):Int))) (by kernel_rfl) (fun h0 => ?_) (fun h0 => ?_)
 ·refine swp_seq ?_
  refine sQ (kt:=[4]) (kh:=[72]) (q:=tn 3) (st':=ASt.mk [(4,.vec 72)] [(72,.vec 30 1 1 fun (j:Nat)=>List.getD [[.sl 1 first.length fun (i:Nat)=>[iv (first.getD i 0)]]] j (TI.za ti30))] 88) (tp 3) ?_
  refine swp_ret ?_
  exact rQ [72] ((True/\True)/\(1=1/\1=(choices r first).length /\ ∀ (i1:Nat),i1 < (choices r first).length->List.getD [[AV.sl 1 first.length fun (i:Nat)=>[iv (first.getD i 0)]]] i1 (TI.za ti30) = [aInts ((choices r first).getD i1 [])])/\T3) ⟨⟨tv,tv⟩,⟨rfl,(o0 hp h0),(fun i1=>(fun h2=>(o1 hp h0 i1 h2)))⟩,rfl,rfl,rfl⟩
 ·refine swp_skip (swp_seq ?_)
  refine sQ (kt:=[1,2,5]) (kh:=[0]) (q:=True/\True) (st':=ASt.mk [(1,aInts first),(2,.ptr 0 []),(5,nilv)] [(0,.cells 25 (cRun r))] 72) ⟨tv,tv⟩ ?_
  refine swp_seq ?_
  refine sQ (kt:=[1,2,5,6]) (kh:=[0]) (q:=True/\True/\True/\True/\(0<=(↑(first.length):Int)/\(↑(first.length):Int) < (↑(r.found.length):Int))/\tn 3) (st':=ASt.mk [(1,aInts first),(2,.ptr 0 []),(5,nilv),(6,aInts (fnd r first.length).frm)] [(0,.cells 25 (cRun r))] 136) ⟨tv,tv,tv,tv,⟨(o2 hp h0),(o3 hp h0)⟩,tp 3⟩ ?_
  refine swp_seq (swp_seq ?_)
  refine sQ (kt:=[1,2,5,6,7]) (kh:=[0]) (q:=True/\True) (st':=ASt.mk [(1,aInts first),(2,.ptr 0 []),(5,nilv),(6,aInts (fnd r first.length).frm),(7,iv 0)] [(0,.cells 25 (cRun r))] 144) ⟨tv,tv⟩ ?_
  refine swp_block ?_
  refine swp_loopA (z121_1 r first) (eQ hE [] [(0,.same 0),(5000,.nil)] [1,6] [0] (((zT (aInts first))/\(zP 0)/\(zT (aInts (fnd r first.length).frm))/\(zN (iv 0) (iv (↑0:Int)))/\zE (some Src.nil)/\True)/\((zT (OB.cells 25 (cRun r)))/\(chAcc r first 0).length=0/\True)/\T2) ⟨⟨⟨rfl,rfl⟩,⟨rfl,rfl⟩,⟨rfl,rfl⟩,⟨(congrArg iv (o4 hp h0)),rfl⟩,rfl,tv⟩,⟨⟨rfl,rfl⟩,(o5 hp h0),tv⟩,rfl,rfl⟩) (o6 hp h0) (fun (x3:Nat) hx3 => ?_)
  refine swp_seq (swp_seq ?_)
  refine sQ (kt:=[1,2,6,7,5,26]) (kh:=[0,5000]) (q:=tn 4) (st':=ASt.mk [(1,aInts first),(2,.ptr 0 []),(6,aInts (fnd r first.length).frm),(7,iv (x3:Int)),(5,.vec 5000),(26,bv (decide ((x3:Int) < (↑((fnd r first.length).frm.length):Int))))] [(0,.cells 25 (cRun r)),(5000,.vec 30 1 (chAcc r first x3).length fun (k:Nat)=>[aInts ((chAcc r first x3).getD k [])])] 10176) (tp 4) ?_
  refine swp_cond (decide ((x3:Int) < (↑((fnd r first.length).frm.length):Int))) (by kernel_rfl) (fun h4 => ?_) (fun h4 => ?_)
  ·refine swp_skip (swp_seq (swp_block ?_))
   refine sC (cs:=[(11,CallSpec.eq (c121 r first x3) [true,false])]) (kt:=[1,2,6,7,5]) (kh:=[0,10272]) (q:=True/\True/\True/\True/\0 + first.length<=65536/\True/\True/\(0<=(x3:Int)/\(x3:Int) < (↑((fnd r first.length).frm.length):Int))/\True/\True/\0 + first.length + 1<=65536/\((zE (AV.agg (cRun r))/\(1=1/\0 + first.length + 1=(first ++ [(fnd r first.length).frm.getD x3 0]).length /\ ∀ (i5:Nat),i5 < (first ++ [(fnd r first.length).frm.getD x3 0]).length->catF (0 + first.length) (fun (i:Nat)=>[iv (first.getD i 0)]) (fun (j:Nat)=>List.getD [[iv ((fnd r first.length).frm.getD x3 0)]] j (TI.za ti3)) i5 = [iv ((first ++ [(fnd r first.length).frm.getD x3 0]).getD i5 0)])/\True)/\Triple Try.prog 121 (c121 r first x3)/\(okRun r=true/\(first ++ [(fnd r first.length).frm.getD x3 0]).length<=r.found.length)/\True /\ ∀ (i7:Env),True)/\(chAcc r first x3).length + (choices r (first ++ [(fnd r first.length).frm.getD x3 0])).length<=65536/\True/\True) (st':=ASt.mk [(1,aInts first),(2,.ptr 0 []),(6,aInts (fnd r first.length).frm),(7,iv (x3:Int)),(5,.vec 10272)] [(0,.cells 25 (cRun r)),(10272,.vec 30 1 ((chAcc r first x3).length + (choices r (first ++ [(fnd r first.length).frm.getD x3 0])).length) (catF (chAcc r first x3).length (fun (k:Nat)=>[aInts ((chAcc r first x3).getD k [])]) fun (i:Nat)=>[aInts ((choices r (first ++ [(fnd r first.length).frm.getD x3 0])).getD i [])]))] 10288) ⟨tv,tv,tv,tv,(o7 hp h0 x3 hx3 h4),tv,tv,⟨(o8 hp h0 x3 hx3 h4),(o9 hp h0 x3 hx3 h4)⟩,tv,tv,(o10 hp h0 x3 hx3 h4),⟨⟨rfl,⟨rfl,(o11 hp h0 x3 hx3 h4),(fun i5=>(fun h6=>(o12 hp h0 x3 hx3 h4 i5 h6)))⟩,tv⟩,(o13 hp h0 x3 hx3 h4),⟨hp.1,(o14 hp h0 x3 hx3 h4)⟩,tv,(fun i7=>tv)⟩,(o15 hp h0 x3 hx3 h4),tv,tv⟩ ?_
   refine sQ (kt:=[1,2,6,7,5]) (kh:=[0,10272]) (q:=True/\inI ((x3:Int) + 1)/\True/\True) (st':=ASt.mk [(1,aInts first),(2,.ptr 0 []),(6,aInts (fnd r first.length).frm),(7,iv ((x3:Int) + 1)),(5,.vec 10272)] [(0,.cells 25 (cRun r)),(10272,.vec 30 1 ((chAcc r first x3).length + (choices r (first ++ [(fnd r first.length).frm.getD x3 0])).length) (catF (chAcc r first x3).length (fun (k:Nat)=>[aInts ((chAcc r first x3).getD k [])]) fun (i:Nat)=>[aInts ((choices r (first ++ [(fnd r first.length).frm.getD x3 0])).getD i [])]))] 10312) ⟨tv,(o16 hp h0 x3 hx3 h4),tv,tv⟩ ?_
   exact loop_next (z121_1 r first) x3 (eQ hE [] [(0,.same 0),(5000,.same 10272)] [1,6] [0] (((zT (aInts first))/\(zP 0)/\(zT (aInts (fnd r first.length).frm))/\(zN (iv ((x3:Int) + 1)) (iv (↑(x3 + 1):Int)))/\zE (some (Src.same 10272))/\True)/\((zT (OB.cells 25 (cRun r)))/\(30=30/\1=1/\(chAcc r first x3).length + (choices r (first ++ [(fnd r first.length).frm.getD x3 0])).length=(chAcc r first (x3 + 1)).length /\ ∀ (i8:Nat),i8 < (chAcc r first x3).length + (choices r (first ++ [(fnd r first.length).frm.getD x3 0])).length->catF (chAcc r first x3).length (fun (k:Nat)=>[aInts ((chAcc r first x3).getD k [])]) (fun (i:Nat)=>[aInts ((choices r (first ++ [(fnd r first.length).frm.getD x3 0])).getD i [])]) i8 = [aInts ((chAcc r first (x3 + 1)).getD i8 [])])/\True)/\T2) ⟨⟨⟨rfl,rfl⟩,⟨rfl,rfl⟩,⟨rfl,rfl⟩,⟨(congrArg iv (o17 hp h0 x3 hx3 h4)),rfl⟩,rfl,tv⟩,⟨⟨rfl,rfl⟩,⟨rfl,rfl,(o18 hp h0 x3 hx3 h4),(fun i8=>(fun h9=>(o19 hp h0 x3 hx3 h4 i8 h9)))⟩,tv⟩,rfl,rfl⟩) (o20 hp h0 x3 hx3 h4) (o21 hp h0 x3 hx3 h4)
  ·refine swp_exit (swp_seq ?_)
   refine sQ (kt:=[4]) (kh:=[5000]) (q:=tn 2) (st':=ASt.mk [(4,.vec 5000)] [(5000,.vec 30 1 (chAcc r first x3).length fun (k:Nat)=>[aInts ((chAcc r first x3).getD k [])])] 10192) (tp 2) ?_
   refine swp_ret ?_
   exact rQ [5000] ((True/\True)/\(1=1/\(chAcc r first x3).length=(choices r first).length /\ ∀ (i10:Nat),i10 < (choices r first).length -> [aInts ((chAcc r first x3).getD i10 [])] = [aInts ((choices r first).getD i10 [])])/\T3) ⟨⟨tv,tv⟩,⟨rfl,(o22 hp h0 x3 hx3 h4),(fun i10=>(fun h11=>(o23 hp h0 x3 hx3 h4 i10 h11)))⟩,rfl,rfl,rfl⟩
theorem t121' (r:Run):∀ (n:Nat) (first:List Int),r.found.length - first.length=n->Triple Try.prog 121 (s121 r first):=by
 intro n
 induction n using Nat.strongRecOn with
 | _ n ih =>
  intro first hn
  apply w121
  case o0=>intro hp h; rw [choices_end (by simp only [decide_eq_true_eq] at h; omega)]; rfl
  case o1 =>
   intro hp h i hi
   have e:=choices_end (r:=r) (first:=first) (by simp only [decide_eq_true_eq] at h; omega)
   rw [e] at hi ⊢
   have:i=0:=by simp at hi; omega
   subst this; rfl
  case o7=>intro hp _ x hx hl; have:=(ok_of hp.1).found; omega
  case o10=>intro hp _ x hx hl; have:=(ok_of hp.1).found; omega
  case o11=>(repeat intro _); simp
  case o12=>intro hp _ x hx hl i hi; exact catF_one first _ 0 (fun z=>[iv z]) (by omega) (fun _ _=>rfl) rfl (by simpa using hi)
  case o13 =>
   intro hp h x hx hl
   simp only [decide_eq_false_iff_not] at h
   exact ih (r.found.length - (first.length + 1)) (by omega) _ (by simp)
  case o14=>intro hp h x hx hl; simp only [decide_eq_false_iff_not] at h; simp; omega
  case o15 =>
   intro hp h x hx hl
   simp only [decide_eq_false_iff_not,decide_eq_true_eq] at h hl
   have h1:=chAcc_len (ok_of hp.1) (first:=first) (by omega) x
   have h2:=choices_len (ok_of hp.1) (first:=first ++ [(fnd r first.length).frm.getD x 0]) (by simp; omega)
   omega
  case o16 =>
   intro hp h x hx hl
   simp only [decide_eq_false_iff_not] at h
   have:=frm_len (ok_of hp.1) (i:=first.length) (by omega)
   simp only [inI]; omega
  case o18 =>
   intro hp h x hx hl
   simp only [decide_eq_true_eq] at hl
   rw [chAcc_succ (by omega),List.length_append]
  case o19 =>
   intro hp h x hx hl i hi
   simp only [decide_eq_true_eq] at hl
   rw [chAcc_succ (by omega)]
   exact catF_eq _ _ [] (fun z=>[aInts z]) rfl (fun _ _=>rfl) (fun _ _=>rfl) hi
  case o22 =>
   intro hp h x hx hl
   simp only [decide_eq_false_iff_not] at h hl
   rw [choices_step (by omega),show x=(fnd r first.length).frm.length by omega]
  case o23 =>
   intro hp h x hx hl i hi
   simp only [decide_eq_false_iff_not] at h hl
   rw [choices_step (by omega),show x=(fnd r first.length).frm.length by omega]
  all_goals ((repeat intro _) <;> (try simp only [v0,v1,v2,v3,v4,v5,v6,v7,v8,v9,inI,fits,Go.Sh.small] at *) <;> first | (exact rfl) | omega | exact vz | (simp_all; done) | (simp_all; omega))
theorem t121 (r:Run) (first:List Int):Triple Try.prog 121 (s121 r first):=t121' r _ first rfl
abbrev z122_1 (r:Run) (l:List Int) (x0:Nat):LoopAnn:=Hint.ann (h122b r l x0) [(1,aInts l),(2,AV.ptr 0 []),(5,iv (x0:Int))] [(0,OB.cells 25 (cRun r))] 20072
abbrev z122_2 (r:Run) (l:List Int):LoopAnn:=Hint.ann (h122a r l) [(1,aInts l),(2,AV.ptr 0 [])] [(0,OB.cells 25 (cRun r))] 10024
abbrev q122_1 (r:Run) (l:List Int) (C:Prop):Prop:=okRun r=true/\l.length<=r.found.length->C
abbrev q122_2 (r:Run) (l:List Int) (C:Nat->Prop):Prop:=q122_1 r l (∀ (x0:Nat),(x0<=r.machines.length /\ ∀ (j:Nat),j < x0->canBeM r l j=true)->decide ((x0:Int) < (↑(r.machines.length):Int))=true->C x0)
abbrev q122_3 (r:Run) (l:List Int) (C:Nat->Nat->Prop):Prop:=q122_2 r l fun x0 => ∀ (x2:Nat),(x2<=r.plates.toNat /\ ∀ (j:Nat),j < x2->canBeAt r l x0 j=true)->decide ((x2:Int) < r.plates)=true->C x0 x2
abbrev q122_4 (r:Run) (l:List Int) (C:Nat->Nat->Prop):Prop:=q122_3 r l fun x0 x2=>decide ((spanOf r l x0 x2).hi < (spanOf r l x0 x2).lo)=false->C x0 x2
abbrev q122_5 (r:Run) (l:List Int) (C:Nat->Nat->Prop):Prop:=q122_2 r l fun x0 => ∀ (x2:Nat),(x2<=r.plates.toNat /\ ∀ (j:Nat),j < x2->canBeAt r l x0 j=true)->decide ((x2:Int) < r.plates)=false->C x0 x2
theorem w122 (r:Run) (l:List Int)
 (o0:q122_1 r l (0=(↑0:Int)))
 (o1:q122_1 r l (0<=r.machines.length /\ ∀ (j:Nat),j < 0->canBeM r l j=true))
 (o2:q122_2 r l fun x0=>0=(↑0:Int))
 (o3:q122_2 r l fun x0=>0<=r.plates.toNat /\ ∀ (j:Nat),j < 0->canBeAt r l x0 j=true)
 (o4:q122_3 r l fun x0 x2=>x0 < r.machines.length)
 (o5:q122_3 r l fun x0 x2=>(x2:Int) < r.plates)
 (o6:q122_3 r l fun x0 x2=>decide ((spanOf r l x0 x2).hi < (spanOf r l x0 x2).lo)=true->false=canBe r l)
 (o7:q122_4 r l fun x0 x2=>inI ((x2:Int) + 1))
 (o8:q122_4 r l fun x0 x2=>(x2:Int) + 1=(↑(x2 + 1):Int))
 (o9:q122_4 r l fun x0 x2=>x2 + 1<=r.plates.toNat /\ ∀ (j:Nat),j < x2 + 1->canBeAt r l x0 j=true)
 (o10:q122_4 r l fun x0 x2=>r.plates.toNat - (x2 + 1) < r.plates.toNat - x2)
 (o11:q122_5 r l fun x0 x2=>inI ((x0:Int) + 1))
 (o12:q122_5 r l fun x0 x2=>(x0:Int) + 1=(↑(x0 + 1):Int))
 (o13:q122_5 r l fun x0 x2=>x0 + 1<=r.machines.length /\ ∀ (j:Nat),j < x0 + 1->canBeM r l j=true)
 (o14:q122_5 r l fun x0 x2=>r.machines.length - (x0 + 1) < r.machines.length - x0)
 (o15:q122_1 r l (∀ (x0:Nat),(x0<=r.machines.length /\ ∀ (j:Nat),j < x0->canBeM r l j=true)->decide ((x0:Int) < (↑(r.machines.length):Int))=false->true=canBe r l)) :
  Triple Try.prog 122 (s122 r l):=by
 refine triple_of Try.func122 rfl Try.call122 T0_ok _ rfl rfl rfl rfl (Nat.le_of_ble_eq_true (by kernel_rfl)) (fun _ _ _ _ h=>h) ?_
 intro hp C hC _ hE
 obtain ⟨P,w0,E0,av,hA⟩:=C
 subst hC
 refine swp_seq ?_
 refine sQ (kt:=[1,2]) (kh:=[0]) (q:=tn 2) (st':=ASt.mk [(1,aInts l),(2,.ptr 0 [])] [(0,.cells 25 (cRun r))] 16) (tp 2) ?_
 refine swp_seq (swp_seq ?_)
 refine sQ (kt:=[1,2,5]) (kh:=[0]) (q:=True/\True) (st':=ASt.mk [(1,aInts l),(2,.ptr 0 []),(5,iv 0)] [(0,.cells 25 (cRun r))] 24) ⟨tv,tv⟩ ?_
 refine swp_block ?_
 refine swp_loopA (z122_2 r l) (eQ hE [] [(0,.same 0)] [1] [0] (((zT (aInts l))/\(zP 0)/\(zN (iv 0) (iv (↑0:Int)))/\True)/\((zT (OB.cells 25 (cRun r)))/\True)/\T2) ⟨⟨⟨rfl,rfl⟩,⟨rfl,rfl⟩,⟨(congrArg iv (o0 hp)),rfl⟩,tv⟩,⟨⟨rfl,rfl⟩,tv⟩,rfl,rfl⟩) (o1 hp) (fun (x0:Nat) hx0 => ?_)
 refine swp_seq (swp_seq ?_)
 refine sQ (kt:=[1,2,5,12]) (kh:=[0]) (q:=tn 5) (st':=ASt.mk [(1,aInts l),(2,.ptr 0 []),(5,iv (x0:Int)),(12,bv (decide ((x0:Int) < (↑(r.machines.length):Int))))] [(0,.cells 25 (cRun r))] 10064) (tp 5) ?_
 refine swp_cond (decide ((x0:Int) < (↑(r.machines.length):Int))) (by kernel_rfl) (fun h1 => ?_) (fun h1 => ?_)
 ·refine swp_skip (swp_seq (swp_block (swp_seq ?_)))
  refine sQ (kt:=[1,2,5,6]) (kh:=[0]) (q:=True/\True) (st':=ASt.mk [(1,aInts l),(2,.ptr 0 []),(5,iv (x0:Int)),(6,iv 0)] [(0,.cells 25 (cRun r))] 10072) ⟨tv,tv⟩ ?_
  refine swp_block ?_
  refine swp_loopA (z122_1 r l x0) (eQ hE [] [(0,.same 0)] [1,5] [0] (((zT (aInts l))/\(zP 0)/\(zT (iv (x0:Int)))/\(zN (iv 0) (iv (↑0:Int)))/\True)/\((zT (OB.cells 25 (cRun r)))/\True)/\T2) ⟨⟨⟨rfl,rfl⟩,⟨rfl,rfl⟩,⟨rfl,rfl⟩,⟨(congrArg iv (o2 hp x0 hx0 h1)),rfl⟩,tv⟩,⟨⟨rfl,rfl⟩,tv⟩,rfl,rfl⟩) (o3 hp x0 hx0 h1) (fun (x2:Nat) hx2 => ?_)
  refine swp_seq (swp_seq ?_)
  refine sQ (kt:=[1,2,5,6,18]) (kh:=[0]) (q:=tn 4) (st':=ASt.mk [(1,aInts l),(2,.ptr 0 []),(5,iv (x0:Int)),(6,iv (x2:Int)),(18,bv (decide ((x2:Int) < r.plates)))] [(0,.cells 25 (cRun r))] 20104) (tp 4) ?_
  refine swp_cond (decide ((x2:Int) < r.plates)) (by kernel_rfl) (fun h3 => ?_) (fun h3 => ?_)
  ·refine swp_skip (swp_seq (swp_block (swp_seq ?_)))
   refine sC (cs:=[(4,CallSpec.eq (s88 r l x0 x2) [true,true,true,true])]) (kt:=[1,2,5,6,7]) (kh:=[0,20144]) (q:=True/\True/\True/\True/\((zE (AV.agg (cRun r))/\zE (aInts l)/\zE (iv (x0:Int))/\zE (iv (x2:Int))/\True)/\Triple Try.prog 88 (s88 r l x0 x2)/\(okRun r=true/\x0 < r.machines.length/\(x2:Int) < r.plates/\l.length<=r.found.length)/\True /\ ∀ (i4:Env),True)/\tn 2) (st':=ASt.mk [(1,aInts l),(2,.ptr 0 []),(5,iv (x0:Int)),(6,iv (x2:Int)),(7,.ptr 20144 [])] [(0,.cells 25 (cRun r)),(20144,.cells 37 (cSpan (spanOf r l x0 x2)))] 20160) ⟨tv,tv,tv,tv,⟨⟨rfl,rfl,rfl,rfl,tv⟩,(t88 (r) (l) (x0) (x2)),⟨hp.1,(o4 hp x0 hx0 h1 x2 hx2 h3),(o5 hp x0 hx0 h1 x2 hx2 h3),hp.2⟩,tv,(fun i4=>tv)⟩,tp 2⟩ ?_
   refine swp_seq ?_
   refine sQ (kt:=[1,2,5,6,30]) (kh:=[0]) (q:=tn 5) (st':=ASt.mk [(1,aInts l),(2,.ptr 0 []),(5,iv (x0:Int)),(6,iv (x2:Int)),(30,bv (decide ((spanOf r l x0 x2).hi < (spanOf r l x0 x2).lo)))] [(0,.cells 25 (cRun r))] 20200) (tp 5) ?_
   refine swp_cond (decide ((spanOf r l x0 x2).hi < (spanOf r l x0 x2).lo)) (by kernel_rfl) (fun h5 => ?_) (fun h5 => ?_)
   ·refine swp_seq ?_
    refine sQ (kt:=[4]) (kh:=[]) (q:=True/\True) (st':=ASt.mk [(4,bv false)] [] 20208) ⟨tv,tv⟩ ?_
    refine swp_ret ?_
    exact rQ [] ((True/\True)/\(zN (bv false) (bv (canBe r l)))/\T3) ⟨⟨tv,tv⟩,⟨(congrArg bv (o6 hp x0 hx0 h1 x2 hx2 h3 h5)),rfl⟩,rfl,rfl,rfl⟩
   ·refine swp_skip ?_
    refine sQ (kt:=[1,2,5,6]) (kh:=[0]) (q:=True/\inI ((x2:Int) + 1)/\True/\True) (st':=ASt.mk [(1,aInts l),(2,.ptr 0 []),(5,iv (x0:Int)),(6,iv ((x2:Int) + 1))] [(0,.cells 25 (cRun r))] 20224) ⟨tv,(o7 hp x0 hx0 h1 x2 hx2 h3 h5),tv,tv⟩ ?_
    exact loop_next (z122_1 r l x0) x2 (eQ hE [] [(0,.same 0)] [1,5] [0] (((zT (aInts l))/\(zP 0)/\(zT (iv (x0:Int)))/\(zN (iv ((x2:Int) + 1)) (iv (↑(x2 + 1):Int)))/\True)/\((zT (OB.cells 25 (cRun r)))/\True)/\T2) ⟨⟨⟨rfl,rfl⟩,⟨rfl,rfl⟩,⟨rfl,rfl⟩,⟨(congrArg iv (o8 hp x0 hx0 h1 x2 hx2 h3 h5)),rfl⟩,tv⟩,⟨⟨rfl,rfl⟩,tv⟩,rfl,rfl⟩) (o9 hp x0 hx0 h1 x2 hx2 h3 h5) (o10 hp x0 hx0 h1 x2 hx2 h3 h5)
  ·refine swp_exit ?_
   refine sQ (kt:=[1,2,5]) (kh:=[0]) (q:=True/\inI ((x0:Int) + 1)/\True/\True) (st':=ASt.mk [(1,aInts l),(2,.ptr 0 []),(5,iv ((x0:Int) + 1))] [(0,.cells 25 (cRun r))] 20128) ⟨tv,(o11 hp x0 hx0 h1 x2 hx2 h3),tv,tv⟩ ?_
   exact loop_next (z122_2 r l) x0 (eQ hE [] [(0,.same 0)] [1] [0] (((zT (aInts l))/\(zP 0)/\(zN (iv ((x0:Int) + 1)) (iv (↑(x0 + 1):Int)))/\True)/\((zT (OB.cells 25 (cRun r)))/\True)/\T2) ⟨⟨⟨rfl,rfl⟩,⟨rfl,rfl⟩,⟨(congrArg iv (o12 hp x0 hx0 h1 x2 hx2 h3)),rfl⟩,tv⟩,⟨⟨rfl,rfl⟩,tv⟩,rfl,rfl⟩) (o13 hp x0 hx0 h1 x2 hx2 h3) (o14 hp x0 hx0 h1 x2 hx2 h3)
 ·refine swp_exit (swp_seq ?_)
  refine sQ (kt:=[4]) (kh:=[]) (q:=True/\True) (st':=ASt.mk [(4,bv true)] [] 10072) ⟨tv,tv⟩ ?_
  refine swp_ret ?_
  exact rQ [] ((True/\True)/\(zN (bv true) (bv (canBe r l)))/\T3) ⟨⟨tv,tv⟩,⟨(congrArg bv (o15 hp x0 hx0 h1)),rfl⟩,rfl,rfl,rfl⟩
theorem t122 (r:Run) (l:List Int):Triple Try.prog 122 (s122 r l):=by
 apply w122
 case o6 =>
  intro hp x hx hl y hy hyl h
  simp only [decide_eq_true_eq] at hl hyl h
  exact (canBe_false (m:=x) (p:=y) (by omega) hyl (by simp only [canBeAt,decide_eq_false_iff_not]; omega)).symm
 case o9 =>
  intro hp x hx hl y hy hyl h
  simp only [decide_eq_true_eq,decide_eq_false_iff_not] at hl hyl h
  exact ⟨by omega,lt_succ_cases hy.2 (by simp only [canBeAt,decide_eq_true_eq]; omega)⟩
 case o13 =>
  intro hp x hx hl y hy hyl
  simp only [decide_eq_true_eq,decide_eq_false_iff_not] at hl hyl
  exact ⟨by omega,lt_succ_cases hx.2 (all_range fun j hj=>hy.2 j (by omega))⟩
 case o15 =>
  intro hp x hx hl
  simp only [decide_eq_false_iff_not] at hl
  exact (all_range fun j hj=>hx.2 j (by omega)).symm
 case o7=>intro hp x hx hl y hy hyl h; have:=(ok_of hp.1).plates; simp only [decide_eq_true_eq] at hyl; simp only [inI]; omega
 case o11=>intro hp x hx hl y hy hyl; have:=(ok_of hp.1).machines; simp only [inI]; omega
 all_goals ((repeat intro _) <;> (try simp only [v0,v1,v2,v3,v4,v5,v6,v7,v8,v9,inI,fits,Go.Sh.small] at *) <;> first | (exact rfl) | omega | exact vz | (simp_all; done) | (simp_all; omega))
abbrev z93_1 (r:Run):LoopAnn:=Hint.ann (h93 r) [(1,AV.ptr 0 []),(3,aIntss (choices r []))] [(0,OB.cells 25 (cRun r))] 10056
abbrev q93_1 (r:Run) (C:Nat->Prop):Prop:=okRun r=true -> ∀ (x1:Nat),x1<=(choices r []).length->decide ((x1:Int) < (↑((choices r []).length):Int))=true->C x1
abbrev q93_2 (r:Run) (C:Nat->Prop):Prop:=q93_1 r fun x1=>canBe r ((choices r []).getD x1 [])=true->C x1
abbrev q93_3 (r:Run) (C:Nat->Prop):Prop:=q93_1 r fun x1=>canBe r ((choices r []).getD x1 [])=false->C x1
abbrev q93_4 (r:Run) (C:Nat->Prop):Prop:=okRun r=true -> ∀ (x1:Nat),x1<=(choices r []).length->decide ((x1:Int) < (↑((choices r []).length):Int))=false->C x1
theorem w93 (r:Run)
 (o0:okRun r=true->0<=List.length (Run.found r))
 (o1:okRun r=true->0=(↑0:Int))
 (o2:okRun r=true->(List.filter (canBe r) (List.take 0 (choices r []))).length=0)
 (o3:okRun r=true->0<=List.length (choices r []))
 (o4:q93_1 r fun x1=>0<=(x1:Int))
 (o5:q93_1 r fun x1=>(x1:Int) < (↑((choices r []).length):Int))
 (o6:q93_1 r fun x1=>((choices r []).getD x1 []).length<=r.found.length)
 (o7:q93_2 r fun x1=>0<=(x1:Int))
 (o8:q93_2 r fun x1=>(x1:Int) < (↑((choices r []).length):Int))
 (o9:q93_2 r fun x1=>(List.filter (canBe r) (List.take x1 (choices r []))).length + 1<=65536)
 (o10:q93_2 r fun x1=>inI ((x1:Int) + 1))
 (o11:q93_2 r fun x1=>(x1:Int) + 1=(↑(x1 + 1):Int))
 (o12:q93_2 r fun x1=>(List.filter (canBe r) (List.take x1 (choices r []))).length + 1=(List.filter (canBe r) (List.take (x1 + 1) (choices r []))).length)
 (o13:q93_2 r fun x1 => ∀ (i5:Nat),i5 < (List.filter (canBe r) (List.take x1 (choices r []))).length + 1->catF (List.filter (canBe r) (List.take x1 (choices r []))).length (fun (k:Nat)=>[aInts ((List.filter (canBe r) (List.take x1 (choices r []))).getD k [])]) (fun (j:Nat)=>List.getD [[AV.sl 1 ((choices r []).getD x1 []).length fun (i:Nat)=>[iv (((choices r []).getD x1 []).getD i 0)]]] j (TI.za ti30)) i5 = [aInts ((List.filter (canBe r) (List.take (x1 + 1) (choices r []))).getD i5 [])])
 (o14:q93_2 r fun x1=>x1 + 1<=(choices r []).length)
 (o15:q93_2 r fun x1=>(choices r []).length - (x1 + 1) < (choices r []).length - x1)
 (o16:q93_3 r fun x1=>inI ((x1:Int) + 1))
 (o17:q93_3 r fun x1=>(x1:Int) + 1=(↑(x1 + 1):Int))
 (o18:q93_3 r fun x1=>(List.filter (canBe r) (List.take x1 (choices r []))).length=(List.filter (canBe r) (List.take (x1 + 1) (choices r []))).length)
 (o19:q93_3 r fun x1 => ∀ (i7:Nat),i7 < (List.filter (canBe r) (List.take x1 (choices r []))).length -> [aInts ((List.filter (canBe r) (List.take x1 (choices r []))).getD i7 [])] = [aInts ((List.filter (canBe r) (List.take (x1 + 1) (choices r []))).getD i7 [])])
 (o20:q93_3 r fun x1=>x1 + 1<=(choices r []).length)
 (o21:q93_3 r fun x1=>(choices r []).length - (x1 + 1) < (choices r []).length - x1)
 (o22:q93_4 r fun x1=>(List.filter (canBe r) (List.take x1 (choices r []))).length=(fromsOf r).length)
 (o23:q93_4 r fun x1 => ∀ (i9:Nat),i9 < (fromsOf r).length -> [aInts ((List.filter (canBe r) (List.take x1 (choices r []))).getD i9 [])] = [aInts ((fromsOf r).getD i9 [])]) :
  Triple Try.prog 93 (s93 r):=by
 refine triple_of Try.func93 rfl Try.call93 T0_ok _ rfl rfl rfl rfl (Nat.le_of_ble_eq_true (by kernel_rfl)) (fun _ _ _ _ h=>h) ?_
 intro hp C hC _ hE
 obtain ⟨P,w0,E0,av,hA⟩:=C
 subst hC
 refine swp_seq ?_
 refine sQ (kt:=[1]) (kh:=[0]) (q:=tn 2) (st':=ASt.mk [(1,.ptr 0 [])] [(0,.cells 25 (cRun r))] 16) (tp 2) ?_
 refine swp_seq ?_
 refine sC (cs:=[(1,CallSpec.eq (s121 r []) [true,false])]) (kt:=[1,3]) (kh:=[0]) (q:=True/\((zE (AV.agg (cRun r))/\0=0/\True)/\Triple Try.prog 121 (s121 r [])/\(okRun r=true/\0<=r.found.length)/\True /\ ∀ (i0:Env),True)/\True/\True) (st':=ASt.mk [(1,.ptr 0 []),(3,aIntss (choices r []))] [(0,.cells 25 (cRun r))] 40) ⟨tv,⟨⟨rfl,rfl,tv⟩,(t121 (r) ([])),⟨hp,(o0 hp)⟩,tv,(fun i0=>tv)⟩,tv,tv⟩ ?_
 refine swp_seq ?_
 refine sQ (kt:=[1,3,4]) (kh:=[0]) (q:=True/\True) (st':=ASt.mk [(1,.ptr 0 []),(3,aIntss (choices r [])),(4,nilv)] [(0,.cells 25 (cRun r))] 48) ⟨tv,tv⟩ ?_
 refine swp_seq (swp_seq ?_)
 refine sQ (kt:=[1,3,4,5]) (kh:=[0]) (q:=True/\True) (st':=ASt.mk [(1,.ptr 0 []),(3,aIntss (choices r [])),(4,nilv),(5,iv 0)] [(0,.cells 25 (cRun r))] 56) ⟨tv,tv⟩ ?_
 refine swp_block ?_
 refine swp_loopA (z93_1 r) (eQ hE [] [(0,.same 0),(5000,.nil)] [3] [0] (((zP 0)/\(zT (aIntss (choices r [])))/\(zN (iv 0) (iv (↑0:Int)))/\zE (some Src.nil)/\True)/\((zT (OB.cells 25 (cRun r)))/\(List.filter (canBe r) (List.take 0 (choices r []))).length=0/\True)/\T2) ⟨⟨⟨rfl,rfl⟩,⟨rfl,rfl⟩,⟨(congrArg iv (o1 hp)),rfl⟩,rfl,tv⟩,⟨⟨rfl,rfl⟩,(o2 hp),tv⟩,rfl,rfl⟩) (o3 hp) (fun (x1:Nat) hx1 => ?_)
 refine swp_seq (swp_seq ?_)
 refine sQ (kt:=[1,3,5,4,11]) (kh:=[0,5000]) (q:=tn 4) (st':=ASt.mk [(1,.ptr 0 []),(3,aIntss (choices r [])),(5,iv (x1:Int)),(4,.vec 5000),(11,bv (decide ((x1:Int) < (↑((choices r []).length):Int))))] [(0,.cells 25 (cRun r)),(5000,.vec 30 1 (List.filter (canBe r) (List.take x1 (choices r []))).length fun (k:Nat)=>[aInts ((List.filter (canBe r) (List.take x1 (choices r []))).getD k [])])] 10088) (tp 4) ?_
 refine swp_cond (decide ((x1:Int) < (↑((choices r []).length):Int))) (by kernel_rfl) (fun h2 => ?_) (fun h2 => ?_)
 ·refine swp_skip (swp_seq (swp_block (swp_seq ?_)))
  refine sC (cs:=[(5,CallSpec.eq (s122 r ((choices r []).getD x1 [])) [true,true])]) (kt:=[1,3,5,4,19]) (kh:=[0,5000]) (q:=True/\True/\True/\(0<=(x1:Int)/\(x1:Int) < (↑((choices r []).length):Int))/\True/\((zE (AV.agg (cRun r))/\zE (aInts ((choices r []).getD x1 []))/\True)/\Triple Try.prog 122 (s122 r ((choices r []).getD x1 []))/\(okRun r=true/\((choices r []).getD x1 []).length<=r.found.length)/\True /\ ∀ (i3:Env),True)/\True) (st':=ASt.mk [(1,.ptr 0 []),(3,aIntss (choices r [])),(5,iv (x1:Int)),(4,.vec 5000),(19,bv (canBe r ((choices r []).getD x1 [])))] [(0,.cells 25 (cRun r)),(5000,.vec 30 1 (List.filter (canBe r) (List.take x1 (choices r []))).length fun (k:Nat)=>[aInts ((List.filter (canBe r) (List.take x1 (choices r []))).getD k [])])] 10136) ⟨tv,tv,tv,⟨(o4 hp x1 hx1 h2),(o5 hp x1 hx1 h2)⟩,tv,⟨⟨rfl,rfl,tv⟩,(t122 (r) ((choices r []).getD x1 [])),⟨hp,(o6 hp x1 hx1 h2)⟩,tv,(fun i3=>tv)⟩,tv⟩ ?_
  refine swp_cond (canBe r ((choices r []).getD x1 [])) (by kernel_rfl) (fun h4 => ?_) (fun h4 => ?_)
  ·refine sQ (kt:=[1,3,5,4]) (kh:=[0,10184]) (q:=True/\True/\True/\(0<=(x1:Int)/\(x1:Int) < (↑((choices r []).length):Int))/\True/\True/\(List.filter (canBe r) (List.take x1 (choices r []))).length + 1<=65536/\True/\True) (st':=ASt.mk [(1,.ptr 0 []),(3,aIntss (choices r [])),(5,iv (x1:Int)),(4,.vec 10184)] [(0,.cells 25 (cRun r)),(10184,.vec 30 1 ((List.filter (canBe r) (List.take x1 (choices r []))).length + 1) (catF (List.filter (canBe r) (List.take x1 (choices r []))).length (fun (k:Nat)=>[aInts ((List.filter (canBe r) (List.take x1 (choices r []))).getD k [])]) fun (j:Nat)=>List.getD [[.sl 1 ((choices r []).getD x1 []).length fun (i:Nat)=>[iv (((choices r []).getD x1 []).getD i 0)]]] j (TI.za ti30)))] 10200) ⟨tv,tv,tv,⟨(o7 hp x1 hx1 h2 h4),(o8 hp x1 hx1 h2 h4)⟩,tv,tv,(o9 hp x1 hx1 h2 h4),tv,tv⟩ ?_
   refine sQ (kt:=[1,3,5,4]) (kh:=[0,10184]) (q:=True/\inI ((x1:Int) + 1)/\True/\True) (st':=ASt.mk [(1,.ptr 0 []),(3,aIntss (choices r [])),(5,iv ((x1:Int) + 1)),(4,.vec 10184)] [(0,.cells 25 (cRun r)),(10184,.vec 30 1 ((List.filter (canBe r) (List.take x1 (choices r []))).length + 1) (catF (List.filter (canBe r) (List.take x1 (choices r []))).length (fun (k:Nat)=>[aInts ((List.filter (canBe r) (List.take x1 (choices r []))).getD k [])]) fun (j:Nat)=>List.getD [[.sl 1 ((choices r []).getD x1 []).length fun (i:Nat)=>[iv (((choices r []).getD x1 []).getD i 0)]]] j (TI.za ti30)))] 10224) ⟨tv,(o10 hp x1 hx1 h2 h4),tv,tv⟩ ?_
   exact loop_next (z93_1 r) x1 (eQ hE [] [(0,.same 0),(5000,.same 10184)] [3] [0] (((zP 0)/\(zT (aIntss (choices r [])))/\(zN (iv ((x1:Int) + 1)) (iv (↑(x1 + 1):Int)))/\zE (some (Src.same 10184))/\True)/\((zT (OB.cells 25 (cRun r)))/\(30=30/\1=1/\(List.filter (canBe r) (List.take x1 (choices r []))).length + 1=(List.filter (canBe r) (List.take (x1 + 1) (choices r []))).length /\ ∀ (i5:Nat),i5 < (List.filter (canBe r) (List.take x1 (choices r []))).length + 1->catF (List.filter (canBe r) (List.take x1 (choices r []))).length (fun (k:Nat)=>[aInts ((List.filter (canBe r) (List.take x1 (choices r []))).getD k [])]) (fun (j:Nat)=>List.getD [[AV.sl 1 ((choices r []).getD x1 []).length fun (i:Nat)=>[iv (((choices r []).getD x1 []).getD i 0)]]] j (TI.za ti30)) i5 = [aInts ((List.filter (canBe r) (List.take (x1 + 1) (choices r []))).getD i5 [])])/\True)/\T2) ⟨⟨⟨rfl,rfl⟩,⟨rfl,rfl⟩,⟨(congrArg iv (o11 hp x1 hx1 h2 h4)),rfl⟩,rfl,tv⟩,⟨⟨rfl,rfl⟩,⟨rfl,rfl,(o12 hp x1 hx1 h2 h4),(fun i5=>(fun h6=>(o13 hp x1 hx1 h2 h4 i5 h6)))⟩,tv⟩,rfl,rfl⟩) (o14 hp x1 hx1 h2 h4) (o15 hp x1 hx1 h2 h4)
  ·refine swp_skip ?_
   refine sQ (kt:=[1,3,5,4]) (kh:=[0,5000]) (q:=True/\inI ((x1:Int) + 1)/\True/\True) (st':=ASt.mk [(1,.ptr 0 []),(3,aIntss (choices r [])),(5,iv ((x1:Int) + 1)),(4,.vec 5000)] [(0,.cells 25 (cRun r)),(5000,.vec 30 1 (List.filter (canBe r) (List.take x1 (choices r []))).length fun (k:Nat)=>[aInts ((List.filter (canBe r) (List.take x1 (choices r []))).getD k [])])] 10160) ⟨tv,(o16 hp x1 hx1 h2 h4),tv,tv⟩ ?_
   exact loop_next (z93_1 r) x1 (eQ hE [] [(0,.same 0),(5000,.same 5000)] [3] [0] (((zP 0)/\(zT (aIntss (choices r [])))/\(zN (iv ((x1:Int) + 1)) (iv (↑(x1 + 1):Int)))/\zE (some (Src.same 5000))/\True)/\((zT (OB.cells 25 (cRun r)))/\(30=30/\1=1/\(List.filter (canBe r) (List.take x1 (choices r []))).length=(List.filter (canBe r) (List.take (x1 + 1) (choices r []))).length /\ ∀ (i7:Nat),i7 < (List.filter (canBe r) (List.take x1 (choices r []))).length -> [aInts ((List.filter (canBe r) (List.take x1 (choices r []))).getD i7 [])] = [aInts ((List.filter (canBe r) (List.take (x1 + 1) (choices r []))).getD i7 [])])/\True)/\T2) ⟨⟨⟨rfl,rfl⟩,⟨rfl,rfl⟩,⟨(congrArg iv (o17 hp x1 hx1 h2 h4)),rfl⟩,rfl,tv⟩,⟨⟨rfl,rfl⟩,⟨rfl,rfl,(o18 hp x1 hx1 h2 h4),(fun i7=>(fun h8=>(o19 hp x1 hx1 h2 h4 i7 h8)))⟩,tv⟩,rfl,rfl⟩) (o20 hp x1 hx1 h2 h4) (o21 hp x1 hx1 h2 h4)
 ·refine swp_exit (swp_seq ?_)
  refine sQ (kt:=[2]) (kh:=[5000]) (q:=tn 2) (st':=ASt.mk [(2,.vec 5000)] [(5000,.vec 30 1 (List.filter (canBe r) (List.take x1 (choices r []))).length fun (k:Nat)=>[aInts ((List.filter (canBe r) (List.take x1 (choices r []))).getD k [])])] 10104) (tp 2) ?_
  refine swp_ret ?_
  exact rQ [5000] ((True/\True)/\(1=1/\(List.filter (canBe r) (List.take x1 (choices r []))).length=(fromsOf r).length /\ ∀ (i9:Nat),i9 < (fromsOf r).length -> [aInts ((List.filter (canBe r) (List.take x1 (choices r []))).getD i9 [])] = [aInts ((fromsOf r).getD i9 [])])/\T3) ⟨⟨tv,tv⟩,⟨rfl,(o22 hp x1 hx1 h2),(fun i9=>(fun h10=>(o23 hp x1 hx1 h2 i9 h10)))⟩,rfl,rfl,rfl⟩
theorem t93 (r:Run):Triple Try.prog 93 (s93 r):=by
 apply w93
 case o2=>intro _; rfl
 case o6 =>
  intro hp x hx hl
  simp only [decide_eq_true_eq] at hl
  rw [choices_mem (getD_mem _ [] (by omega))]; exact Nat.le_refl _
 case o9 =>
  intro hp x hx hl h
  have h1:=choices_len (ok_of hp) (first:=[]) (Nat.zero_le _)
  have h2:=List.length_filter_le (canBe r) ((choices r []).take x)
  rw [List.length_take] at h2
  omega
 case o10 | o16 =>
  intro hp x hx hl h
  have h1:=choices_len (ok_of hp) (first:=[]) (Nat.zero_le _)
  simp only [inI]; omega
 case o12 =>
  intro hp x hx hl h
  simp only [decide_eq_true_eq] at hl
  rw [take_succ _ [] (by omega),List.filter_append,List.length_append,List.filter_cons_of_pos h]; rfl
 case o13 =>
  intro hp x hx hl h i hi
  simp only [decide_eq_true_eq] at hl
  rw [take_succ _ [] (show x < (choices r []).length by omega),List.filter_append,List.filter_cons_of_pos h,List.filter_nil]
  exact catF_one _ _ [] (fun z=>[aInts z]) rfl (fun _ _=>rfl) rfl hi
 case o18 =>
  intro hp x hx hl h
  simp only [decide_eq_true_eq] at hl
  rw [take_succ _ [] (by omega),List.filter_append,List.length_append,List.filter_cons_of_neg (by rw [h]; exact Bool.false_ne_true)]; rfl
 case o19 =>
  intro hp x hx hl h i hi
  simp only [decide_eq_true_eq] at hl
  rw [take_succ _ [] (show x < (choices r []).length by omega),List.filter_append,List.filter_cons_of_neg (by rw [h]; exact Bool.false_ne_true),List.filter_nil,List.append_nil]
 case o22 =>
  intro hp x hx hl
  simp only [decide_eq_false_iff_not] at hl
  rw [List.take_of_length_le (by omega)]; rfl
 case o23 =>
  intro hp x hx hl i hi
  simp only [decide_eq_false_iff_not] at hl
  rw [List.take_of_length_le (by omega)]; rfl
 all_goals ((repeat intro _) <;> (try simp only [v0,v1,v2,v3,v4,v5,v6,v7,v8,v9,inI,fits,Go.Sh.small] at *) <;> first | (exact rfl) | omega | exact vz | (simp_all; done) | (simp_all; omega))
theorem w42 (r:Run)
  (o0:okRun r=true->decide (0 < (↑((fromsOf r).length):Int))=isOne r) :
  Triple Try.prog 42 (s42 r):=by
 refine triple_of Try.func42 rfl Try.call42 T0_ok _ rfl rfl rfl rfl (Nat.le_of_ble_eq_true (by kernel_rfl)) (fun _ _ _ _ h=>h) ?_
 intro hp C hC _ hE
 obtain ⟨P,w0,E0,av,hA⟩:=C
 subst hC
 refine swp_seq ?_
 refine sQ (kt:=[1]) (kh:=[0]) (q:=tn 2) (st':=ASt.mk [(1,.ptr 0 [])] [(0,.cells 25 (cRun r))] 16) (tp 2) ?_
 refine swp_seq ?_
 refine sC (cs:=[(1,CallSpec.eq (s93 r) [true])]) (kt:=[2]) (kh:=[]) (q:=True/\((zE (AV.agg (cRun r))/\True)/\Triple Try.prog 93 (s93 r)/\okRun r=true/\True /\ ∀ (i0:Env),True)/\tn 3) (st':=ASt.mk [(2,bv (decide (0 < (↑((fromsOf r).length):Int))))] [] 56) ⟨tv,⟨⟨rfl,tv⟩,(t93 (r)),hp,tv,(fun i0=>tv)⟩,tp 3⟩ ?_
 refine swp_ret ?_
 exact rQ [] ((True/\True)/\(zN (bv (decide (0 < (↑((fromsOf r).length):Int)))) (bv (isOne r)))/\T3) ⟨⟨tv,tv⟩,⟨(congrArg bv (o0 hp)),rfl⟩,rfl,rfl,rfl⟩
theorem t42 (r:Run):Triple Try.prog 42 (s42 r):=by
 apply w42
 all_goals ((repeat intro _) <;> (try simp only [v0,v1,v2,v3,v4,v5,v6,v7,v8,v9,inI,fits,Go.Sh.small] at *) <;> first | (exact rfl) | omega | exact vz | (simp_all; done) | (simp_all; omega))
theorem w21 (r:Run)
  (o0:fits r->ready r=true->okRun r=true)
  (o1:fits r->(bif ready r then isOne r else false)=known6 r) :
  Triple Try.prog 21 (s21 r):=by
 refine triple_of Try.func21 rfl Try.call21 T0_ok _ rfl rfl rfl rfl (Nat.le_of_ble_eq_true (by kernel_rfl)) (fun _ _ _ _ h=>h) ?_
 intro hp C hC _ hE
 obtain ⟨P,w0,E0,av,hA⟩:=C
 subst hC
 refine swp_seq ?_
 refine sQ (kt:=[1]) (kh:=[0]) (q:=tn 2) (st':=ASt.mk [(1,.ptr 0 [])] [(0,.cells 25 (cRun r))] 16) (tp 2) ?_
 refine swp_seq ?_
 refine sC (cs:=[(1,CallSpec.eq (s17 r) [true]),(4,CallSpec.eq (s42 r) [true])]) (kt:=[2]) (kh:=[]) (q:=True/\((zE (AV.agg (cRun r))/\True)/\Triple Try.prog 17 (s17 r)/\fits r/\True /\ ∀ (i0:Env),True)/\True/\(ready r=true->(True/\True)/\True)/\(ready r=true->(True/\(ready r=true->ready r=true)/\True)/\(zE (AV.agg (cRun r))/\True)/\Triple Try.prog 42 (s42 r)/\okRun r=true/\True /\ ∀ (i4:Env),True)/\((ready r=true->ready r=true)/\(ready r=false->True))/\True/\True) (st':=ASt.mk [(2,bv (bif ready r then isOne r else false))] [] 72) ⟨tv,⟨⟨rfl,tv⟩,(t17 (r)),hp,tv,(fun i0=>tv)⟩,tv,(fun h1=>⟨⟨tv,tv⟩,tv⟩),(fun h2=>⟨⟨tv,(fun h3=>h2),tv⟩,⟨rfl,tv⟩,(t42 (r)),(o0 hp h2),tv,(fun i4=>tv)⟩),⟨(fun h5=>h5),(fun h6=>tv)⟩,tv,tv⟩ ?_
 refine swp_ret ?_
 exact rQ [] ((True/\True)/\(zN (bv (bif ready r then isOne r else false)) (bv (known6 r)))/\T3) ⟨⟨tv,tv⟩,⟨(congrArg bv (o1 hp)),rfl⟩,rfl,rfl,rfl⟩
theorem t21 (r:Run):Triple Try.prog 21 (s21 r):=by
 apply w21
 case o0=>intro _ h; simp only [ready,Bool.and_eq_true,decide_eq_true_eq] at h; exact check_zero.1 h.2
 case o1=>intro _; unfold known6; cases ready r <;> rfl
end Go.Ab
namespace Go.Sh
def idxF (l:List Int) (p:Int->Bool):Int:=match l.findIdx? p with | some i=>i | none => -1
def badNew (n:Int):Bool := !within n (-1) 1
theorem idxF_found {l:List Int} {p:Int->Bool} {x:Nat} (hx:x < l.length) (h:∀ j,j < x->p (l.getD j 0)=false) (hp:p (l.getD x 0)=true):idxF l p=x:=by
 have:l.findIdx? p=some x:=by
  rw [List.findIdx?_eq_some_iff_getElem]
  refine ⟨hx,by rw [← Go.Ab.getD_lt l 0 hx]; exact hp,fun j hj => ?_⟩
  rw [← Go.Ab.getD_lt l 0 (by omega),h j hj]; simp
 simp [idxF,this]
theorem idxF_none {l:List Int} {p:Int->Bool} (h:∀ j,j < l.length->p (l.getD j 0)=false):idxF l p = -1:=by
 have:l.findIdx? p=none:=by
  rw [List.findIdx?_eq_none_iff]
  intro x hx
  have h1:=Go.Ab.any_idx l 0 p h
  rw [List.any_eq_false] at h1
  simpa using h1 x hx
 simp [idxF,this]
theorem idxF_any (l:List Int) (p:Int->Bool):decide (0<=idxF l p)=l.any p:=by
 unfold idxF
 cases e:l.findIdx? p with
 | none =>
  rw [List.findIdx?_eq_none_iff] at e
  have:l.any p=false:=by rw [List.any_eq_false]; intro x hx; simp [e x hx]
  rw [this]; rfl
 | some i =>
  rw [List.findIdx?_eq_some_iff_getElem] at e
  obtain ⟨h,h1,_⟩:=e
  have:l.any p=true:=by rw [List.any_eq_true]; exact ⟨_,List.getElem_mem h,h1⟩
  rw [this]; simp
end Go.Sh
namespace Go.Ab
open Go Go.RowKit Go.Proofs Go.Sh Go.En
def s114 (n:Int):CallSpec:={ args:=[iv n],res:=bv (badNew n) }
def s136 (l:List Int) (p:Int->Bool):CallSpec:={ args:=[aInts l,.fn 0],res:=iv (idxF l p),pre:=l.length<=1125899906842624,fnok:=fnokOf Try.prog 0 (fun n:Int=>[iv n]) (fun n=>bv (p n)) }
def h136 (l:List Int) (p:Int->Bool):Hint:={ X:=Nat,M:=fun i=>[(8,iv i)],I:=fun i=>i<=l.length /\ ∀ j,j < i->p (l.getD j 0)=false,mu:=fun i=>l.length - i,x0:=(0:Nat),nx:=fun i=>i + 1 }
def c136 (l:List Int) (p:Int->Bool) (x:Nat):CallSpec:={ args:=[iv (l.getD x 0)],res:=bv (p (l.getD x 0)) }
def s113 (l:List Int) (p:Int->Bool):CallSpec:={ args:=[aInts l,.fn 0],res:=bv (l.any p),pre:=l.length<=1125899906842624,fnok:=fnokOf Try.prog 0 (fun n:Int=>[iv n]) (fun n=>bv (p n)) }
def c113 (l:List Int) (p:Int->Bool):CallSpec:=s136 l p
def s71 (r:Run):CallSpec:={ args:=[vRun r],res:=iv (check r),pre:=fits r }
def h71a (r:Run):Hint:={ X:=Nat,M:=fun i=>[(37,iv i)],I:=fun i=>i<=r.machines.length /\ ∀ j,j < i->okMachA r (mach r j)=true,mu:=fun i=>r.machines.length - i,x0:=(0:Nat),nx:=fun i=>i + 1 }
def h71b (r:Run) (x:Nat):Hint:={ X:=Nat,M:=fun i=>[(56,iv i)],I:=fun i=>i<=(mach r x).changes.length /\ ∀ j,j < i->isSpan (chg (mach r x) j) r.last=true,mu:=fun i=>(mach r x).changes.length - i,x0:=(0:Nat),nx:=fun i=>i + 1 }
def h71c (r:Run):Hint:={ X:=Nat,M:=fun i=>[(78,iv i)],I:=fun i=>i<=r.found.length /\ ∀ j,j < i->okFndA r (fnd r j)=true,mu:=fun i=>r.found.length - i,x0:=(0:Nat),nx:=fun i=>i + 1 }
def h71d (r:Run) (x:Nat):Hint:={ X:=Nat,M:=fun i=>[(111,iv i)],I:=fun i=>i<=(fnd r x).frm.length /\ ∀ j,j < i->risAt (fnd r x).frm 0 ((r.machines.length:Int) - 1) j=true,mu:=fun i=>(fnd r x).frm.length - i,x0:=(0:Nat),nx:=fun i=>i + 1 }
def c71 (r:Run) (x:Nat):CallSpec:=s113 (fnd r x).new badNew
end Go.Ab
namespace Go.Ab
open Go Go.RowKit Go.Proofs Go.Sh Go.En
theorem w114 (n:Int)
  (o0:(!within n (-1) 1)=badNew n) :
  Triple Try.prog 114 (s114 n):=by
 refine triple_of Try.func114 rfl Try.call114 T0_ok _ rfl rfl rfl rfl (Nat.le_of_ble_eq_true (by kernel_rfl)) (fun _ _ _ _ h=>h) ?_
 intro _ C hC _ hE
 obtain ⟨P,w0,E0,av,hA⟩:=C
 subst hC
 refine swp_seq ?_
 refine sQ (kt:=[0]) (kh:=[]) (q:=True/\True) (st':=ASt.mk [(0,iv n)] [] 8) ⟨tv,tv⟩ ?_
 refine swp_seq ?_
 refine sC (cs:=[(1,CallSpec.eq (s112 n (-1) 1) [true,true,true])]) (kt:=[2]) (kh:=[]) (q:=True/\((iv n=iv n/\zE (iv (-1))/\iv 1=iv 1/\True)/\Triple Try.prog 112 (s112 n (-1) 1)/\True/\True /\ ∀ (i0:Env),True)/\tn 2) (st':=ASt.mk [(2,bv !within n (-1) 1)] [] 40) ⟨tv,⟨⟨rfl,rfl,rfl,tv⟩,(t112 (n) (-1) (1)),tv,tv,(fun i0=>tv)⟩,tp 2⟩ ?_
 refine swp_ret ?_
 exact rQ [] ((True/\True)/\(zN (bv !within n (-1) 1) (bv (badNew n)))/\T3) ⟨⟨tv,tv⟩,⟨(congrArg bv (o0)),rfl⟩,rfl,rfl,rfl⟩
theorem t114 (n:Int):Triple Try.prog 114 (s114 n):=by
 apply w114
 all_goals (try ((repeat intro _) <;> (try simp only [v0,v1,v2,v3,v4,v5,v6,v7,v8,v9,inI,fits,Go.Sh.small] at *) <;> first | (exact rfl) | omega | exact vz | (simp_all; done) | (simp_all; omega)))
abbrev z136_1 (l:List Int) (p:Int->Bool):LoopAnn:=Hint.ann (h136 l p) [(0,aInts l),(1,AV.fn 0),(7,iv (↑(l.length):Int))] [] 10032
abbrev q136_1 (l:List Int) (p:Int->Bool) (C:Env->Prop):Prop := ∀ (E0:Env),fnokOf Try.prog 0 (fun (n:Int)=>[iv n]) (fun (n:Int)=>bv (p n)) E0->l.length<=1125899906842624->C E0
abbrev q136_2 (l:List Int) (p:Int->Bool) (C:Env->Nat->Prop):Prop:=q136_1 l p fun E0 => ∀ (x0:Nat),(x0<=l.length /\ ∀ (j:Nat),j < x0->p (l.getD j 0)=false)->decide ((x0:Int) < (↑(l.length):Int))=true->C E0 x0
theorem w136 (l:List Int) (p:Int->Bool)
 (o0:q136_1 l p fun E0=>0=(↑0:Int))
 (o1:q136_1 l p fun E0=>0<=l.length /\ ∀ (j:Nat),j < 0->p (l.getD j 0)=false)
 (o2:q136_2 l p fun E0 x0=>0<=(x0:Int))
 (o3:q136_2 l p fun E0 x0=>(x0:Int) < (↑(l.length):Int))
 (o4:q136_2 l p fun E0 x0 => ∀ (i2:Value),E0.4 0 i2->FnOK Try.prog E0 i2 [iv (l.getD x0 0)] (bv (p (l.getD x0 0))))
 (o5:q136_2 l p fun E0 x0=>p (l.getD x0 0)=true->(x0:Int)=idxF l p)
 (o6:q136_2 l p fun E0 x0=>p (l.getD x0 0)=false->inI ((x0:Int) + 1))
 (o7:q136_2 l p fun E0 x0=>p (l.getD x0 0)=false->(x0:Int) + 1=(↑(x0 + 1):Int))
 (o8:q136_2 l p fun E0 x0=>p (l.getD x0 0)=false->x0 + 1<=l.length /\ ∀ (j:Nat),j < x0 + 1->p (l.getD j 0)=false)
 (o9:q136_2 l p fun E0 x0=>p (l.getD x0 0)=false->l.length - (x0 + 1) < l.length - x0)
 (o10:q136_1 l p fun E0 => ∀ (x0:Nat),(x0<=l.length /\ ∀ (j:Nat),j < x0->p (l.getD j 0)=false)->decide ((x0:Int) < (↑(l.length):Int))=false -> -1=idxF l p) :
  Triple Try.prog 136 (s136 l p):=by
 refine triple_of Try.func136 rfl Try.call136 T0_ok _ rfl rfl rfl rfl (Nat.le_of_ble_eq_true (by kernel_rfl)) fnokOf_congr ?_
 intro hp C hC hfn hE
 obtain ⟨P,w0,E0,av,hA⟩:=C
 subst hC
 refine swp_seq ?_
 refine sQ (kt:=[0,1]) (kh:=[]) (q:=True/\True) (st':=ASt.mk [(0,aInts l),(1,.fn 0)] [] 8) ⟨tv,tv⟩ ?_
 refine swp_seq (swp_seq ?_)
 refine sQ (kt:=[0,1,7,8]) (kh:=[]) (q:=tn 3) (st':=ASt.mk [(0,aInts l),(1,.fn 0),(7,iv (↑(l.length):Int)),(8,iv 0)] [] 32) (tp 3) ?_
 refine swp_block ?_
 refine swp_loopA (z136_1 l p) (eQ hE [] [] [0,1,7] [] (((zT (aInts l))/\(zT (AV.fn 0))/\(zT (iv (↑(l.length):Int)))/\(zN (iv 0) (iv (↑0:Int)))/\True)/\True/\T2) ⟨⟨⟨rfl,rfl⟩,⟨rfl,rfl⟩,⟨rfl,rfl⟩,⟨(congrArg iv (o0 E0 hfn hp)),rfl⟩,tv⟩,tv,rfl,rfl⟩) (o1 E0 hfn hp) (fun (x0:Nat) hx0 => ?_)
 refine swp_seq ?_
 refine sQ (kt:=[0,1,7,8,9]) (kh:=[]) (q:=True/\True) (st':=ASt.mk [(0,aInts l),(1,.fn 0),(7,iv (↑(l.length):Int)),(8,iv (x0:Int)),(9,bv (decide ((x0:Int) < (↑(l.length):Int))))] [] 10040) ⟨tv,tv⟩ ?_
 refine swp_seq ?_
 refine swp_cond (decide ((x0:Int) < (↑(l.length):Int))) (by kernel_rfl) (fun h1 => ?_) (fun h1 => ?_)
 ·refine swp_skip (swp_seq (swp_block (swp_seq ?_)))
  refine sQ (kt:=[0,1,7,8,5]) (kh:=[]) (q:=tn 2) (st':=ASt.mk [(0,aInts l),(1,.fn 0),(7,iv (↑(l.length):Int)),(8,iv (x0:Int)),(5,iv (x0:Int))] [] 10056) (tp 2) ?_
  refine swp_seq ?_
  refine sC (cs:=[(5,CallSpec.eq (c136 l p x0) [true])]) (kt:=[0,1,7,8,5,16]) (kh:=[]) (q:=True/\True/\True/\(0<=(x0:Int)/\(x0:Int) < (↑(l.length):Int))/\True/\((zE (iv (l.getD x0 0))/\True) /\ ∀ (i2:Value),E0.4 0 i2->FnOK Try.prog E0 i2 [iv (l.getD x0 0)] (bv (p (l.getD x0 0))))/\True) (st':=ASt.mk [(0,aInts l),(1,.fn 0),(7,iv (↑(l.length):Int)),(8,iv (x0:Int)),(5,iv (x0:Int)),(16,bv (p (l.getD x0 0)))] [] 10104) ⟨tv,tv,tv,⟨(o2 E0 hfn hp x0 hx0 h1),(o3 E0 hfn hp x0 hx0 h1)⟩,tv,⟨⟨rfl,tv⟩,(fun i2=>(fun h3=>(o4 E0 hfn hp x0 hx0 h1 i2 h3)))⟩,tv⟩ ?_
  refine swp_cond (p (l.getD x0 0)) (by kernel_rfl) (fun h4 => ?_) (fun h4 => ?_)
  ·refine swp_seq ?_
   refine sQ (kt:=[4]) (kh:=[]) (q:=tn 2) (st':=ASt.mk [(4,iv (x0:Int))] [] 10120) (tp 2) ?_
   refine swp_ret ?_
   exact rQ [] ((True/\True)/\(zN (iv (x0:Int)) (iv (idxF l p)))/\T3) ⟨⟨tv,tv⟩,⟨(congrArg iv (o5 E0 hfn hp x0 hx0 h1 h4)),rfl⟩,rfl,rfl,rfl⟩
  ·refine swp_skip ?_
   refine sQ (kt:=[0,1,7,8]) (kh:=[]) (q:=inI ((x0:Int) + 1)/\True/\True) (st':=ASt.mk [(0,aInts l),(1,.fn 0),(7,iv (↑(l.length):Int)),(8,iv ((x0:Int) + 1))] [] 10120) ⟨(o6 E0 hfn hp x0 hx0 h1 h4),tv,tv⟩ ?_
   exact loop_next (z136_1 l p) x0 (eQ hE [] [] [0,1,7] [] (((zT (aInts l))/\(zT (AV.fn 0))/\(zT (iv (↑(l.length):Int)))/\(zN (iv ((x0:Int) + 1)) (iv (↑(x0 + 1):Int)))/\True)/\True/\T2) ⟨⟨⟨rfl,rfl⟩,⟨rfl,rfl⟩,⟨rfl,rfl⟩,⟨(congrArg iv (o7 E0 hfn hp x0 hx0 h1 h4)),rfl⟩,tv⟩,tv,rfl,rfl⟩) (o8 E0 hfn hp x0 hx0 h1 h4) (o9 E0 hfn hp x0 hx0 h1 h4)
 ·refine swp_exit (swp_seq ?_)
  refine sQ (kt:=[4]) (kh:=[]) (q:=True/\True) (st':=ASt.mk [(4,iv (-1))] [] 10048) ⟨tv,tv⟩ ?_
  refine swp_ret ?_
  exact rQ [] ((True/\True)/\(zN (iv (-1)) (iv (idxF l p)))/\T3) ⟨⟨tv,tv⟩,⟨(congrArg iv (o10 E0 hfn hp x0 hx0 h1)),rfl⟩,rfl,rfl,rfl⟩
theorem t136 (l:List Int) (p:Int->Bool):Triple Try.prog 136 (s136 l p):=by
 apply w136
 case o4=>intro E0 hfn hp x hx hl u hu; exact hfn u hu _
 case o5=>intro E0 hfn hp x hx hl h; simp only [decide_eq_true_eq] at hl; exact (idxF_found (by omega) hx.2 h).symm
 case o8=>intro E0 hfn hp x hx hl h; simp only [decide_eq_true_eq] at hl; exact ⟨by omega,lt_succ_cases hx.2 h⟩
 case o10=>intro E0 hfn hp x hx hl; simp only [decide_eq_false_iff_not] at hl; exact (idxF_none (fun j hj=>hx.2 j (by omega))).symm
 all_goals ((repeat intro _) <;> (try simp only [v0,v1,v2,v3,v4,v5,v6,v7,v8,v9,inI,fits,Go.Sh.small] at *) <;> first | (exact rfl) | omega | exact vz | (simp_all; done) | (simp_all; omega))
theorem w113 (l:List Int) (p:Int->Bool)
  (o0:∀ (E0:Env),fnokOf Try.prog 0 (fun (n:Int)=>[iv n]) (fun (n:Int)=>bv (p n)) E0->l.length<=1125899906842624 -> ∀ (i0:Env) (i1:List Value),Env.le E0 i0->i1.length=List.length [aInts l,AV.fn 0]->(∀ (k:Nat),Rel i0 true (List.getD [aInts l,AV.fn 0] k AV.any) (i1.getD k undef))->fnokOf Try.prog 0 (fun (n:Int)=>[iv n]) (fun (n:Int)=>bv (p n)) (Env.mk i0.1 i0.2 i0.3 fun (k:Nat) (u:Value) => ∃ (i:Nat),[aInts l,AV.fn 0][i]? = some (AV.fn k)/\i1[i]? = some u))
  (o1:∀ (E0:Env),fnokOf Try.prog 0 (fun (n:Int)=>[iv n]) (fun (n:Int)=>bv (p n)) E0->l.length<=1125899906842624->decide (0<=idxF l p)=List.any l p) :
  Triple Try.prog 113 (s113 l p):=by
 refine triple_of Try.func113 rfl Try.call113 T0_ok _ rfl rfl rfl rfl (Nat.le_of_ble_eq_true (by kernel_rfl)) fnokOf_congr ?_
 intro hp C hC hfn hE
 obtain ⟨P,w0,E0,av,hA⟩:=C
 subst hC
 refine swp_seq ?_
 refine sQ (kt:=[0,1]) (kh:=[]) (q:=True/\True) (st':=ASt.mk [(0,aInts l),(1,.fn 0)] [] 8) ⟨tv,tv⟩ ?_
 refine swp_seq ?_
 refine sC (cs:=[(2,CallSpec.eq (c113 l p) [true,true])]) (kt:=[4]) (kh:=[]) (q:=True/\True/\((zE (aInts l)/\zE (AV.fn 0)/\True)/\Triple Try.prog 136 (c113 l p)/\l.length<=1125899906842624/\True /\ ∀ (i0:Env) (i1:List Value),Env.le E0 i0->i1.length=List.length [aInts l,AV.fn 0]->(∀ (k:Nat),Rel i0 true (List.getD [aInts l,AV.fn 0] k AV.any) (i1.getD k undef))->fnokOf Try.prog 0 (fun (n:Int)=>[iv n]) (fun (n:Int)=>bv (p n)) (Env.mk i0.1 i0.2 i0.3 fun (k:Nat) (u:Value) => ∃ (i:Nat),[aInts l,AV.fn 0][i]? = some (AV.fn k)/\i1[i]? = some u))/\tn 2) (st':=ASt.mk [(4,bv (decide (0<=idxF l p)))] [] 48) ⟨tv,tv,⟨⟨rfl,rfl,tv⟩,(t136 _ _),hp,tv,(fun i0=>(fun i1=>(fun h2=>(fun h3=>(fun h4=>(o0 E0 hfn hp i0 i1 h2 h3 h4))))))⟩,tp 2⟩ ?_
 refine swp_ret ?_
 exact rQ [] ((True/\True)/\(zN (bv (decide (0<=idxF l p))) (bv (List.any l p)))/\T3) ⟨⟨tv,tv⟩,⟨(congrArg bv (o1 E0 hfn hp)),rfl⟩,rfl,rfl,rfl⟩
theorem t113 (l:List Int) (p:Int->Bool):Triple Try.prog 113 (s113 l p):=by
 apply w113
 case o0 =>
  intro E0 hfn hp E us le hl hr
  refine fnok_pass 1 (fun j' h => ?_) rfl hfn E us le hl hr
  match j',h with
  | 0,h=>cases h
  | 1,_=>rfl
  | n + 2,h=>simp at h
 case o1=>(repeat intro _); exact idxF_any _ _
abbrev z71_1 (r:Run) (x61:Nat):LoopAnn:=Hint.ann (h71d r x61) [(1,AV.ptr 0 []),(76,AV.sl 3 r.found.length fun (i:Nat)=>cFnd (fnd r i)),(77,iv (↑(r.found.length):Int)),(78,iv (x61:Int)),(8,AV.ptr 20296 []),(109,aInts (fnd r x61).frm),(110,iv (↑((fnd r x61).frm.length):Int))] [(0,OB.cells 25 (cRun r)),(20296,OB.cells 32 (cFnd (fnd r x61)))] 30552
abbrev z71_2 (r:Run) (x33:Nat):LoopAnn:=Hint.ann (h71b r x33) [(1,AV.ptr 0 []),(35,AV.sl 2 r.machines.length fun (i:Nat)=>cMach (mach r i)),(36,iv (↑(r.machines.length):Int)),(37,iv (x33:Int)),(54,aSpans (mach r x33).changes),(55,iv (↑((mach r x33).changes.length):Int))] [(0,OB.cells 25 (cRun r))] 20400
abbrev z71_3 (r:Run):LoopAnn:=Hint.ann (h71a r) [(1,AV.ptr 0 []),(35,AV.sl 2 r.machines.length fun (i:Nat)=>cMach (mach r i)),(36,iv (↑(r.machines.length):Int))] [(0,OB.cells 25 (cRun r))] 10232
abbrev z71_4 (r:Run):LoopAnn:=Hint.ann (h71c r) [(1,AV.ptr 0 []),(76,AV.sl 3 r.found.length fun (i:Nat)=>cFnd (fnd r i)),(77,iv (↑(r.found.length):Int))] [(0,OB.cells 25 (cRun r))] 20272
abbrev q71_1 (r:Run) (C:Prop):Prop:=fits r->(bif bif bif !within r.plates 1 3 then true else !within r.last 1 30 then true else !within (↑(r.machines.length):Int) 1 3 then true else decide (6 < (↑(r.found.length):Int)))=false->C
abbrev q71_2 (r:Run) (C:Nat->Prop):Prop:=q71_1 r (∀ (x33:Nat),(x33<=r.machines.length /\ ∀ (j:Nat),j < x33->okMachA r (mach r j)=true)->decide ((x33:Int) < (↑(r.machines.length):Int))=true->C x33)
abbrev q71_3 (r:Run) (C:Nat->Prop):Prop:=q71_2 r fun x33=>(bif !decide ((↑((mach r x33).changes.length):Int)=r.plates) then true else !within (mach r x33).rate 0 9)=false->C x33
abbrev q71_4 (r:Run) (C:Nat->Nat->Prop):Prop:=q71_3 r fun x33 => ∀ (x46:Nat),(x46<=(mach r x33).changes.length /\ ∀ (j:Nat),j < x46->isSpan (chg (mach r x33) j) r.last=true)->C x33 x46
abbrev q71_5 (r:Run) (C:Nat->Nat->Prop):Prop:=q71_4 r fun x33 x46=>decide ((x46:Int) < (↑((mach r x33).changes.length):Int))=true->C x33 x46
abbrev q71_6 (r:Run) (C:Nat->Nat->Prop):Prop:=q71_5 r fun x33 x46=>(bif !within ((mach r x33).changes.getD x46 default).lo 0 ((mach r x33).changes.getD x46 default).hi then true else decide (r.last < ((mach r x33).changes.getD x46 default).hi))=false->C x33 x46
abbrev q71_7 (r:Run) (C:Nat->Nat->Prop):Prop:=q71_4 r fun x33 x46=>decide ((x46:Int) < (↑((mach r x33).changes.length):Int))=false->C x33 x46
abbrev q71_8 (r:Run) (C:Nat->Prop):Prop:=q71_1 r (∀ (x33:Nat),(x33<=r.machines.length /\ ∀ (j:Nat),j < x33->okMachA r (mach r j)=true)->decide ((x33:Int) < (↑(r.machines.length):Int))=false->C x33)
abbrev q71_9 (r:Run) (C:Nat->Nat->Prop):Prop:=q71_8 r fun x33 => ∀ (x61:Nat),(x61<=r.found.length /\ ∀ (j:Nat),j < x61->okFndA r (fnd r j)=true)->decide ((x61:Int) < (↑(r.found.length):Int))=true->C x33 x61
abbrev q71_10 (r:Run) (C:Nat->Nat->Prop):Prop:=q71_9 r fun x33 x61=>(bif bif bif !within (fnd r x61).minute 0 (r.last - 1) then true else !decide ((↑((fnd r x61).new.length):Int)=r.plates) then true else decide ((↑((fnd r x61).frm.length):Int)=0) then true else List.any (fnd r x61).new badNew)=false->C x33 x61
abbrev q71_11 (r:Run) (C:Nat->Nat->Nat->Prop):Prop:=q71_10 r fun x33 x61 => ∀ (x99:Nat),(x99<=(fnd r x61).frm.length /\ ∀ (j:Nat),j < x99->risAt (fnd r x61).frm 0 ((↑(r.machines.length):Int) - 1) j=true)->C x33 x61 x99
abbrev q71_12 (r:Run) (C:Nat->Nat->Nat->Prop):Prop:=q71_11 r fun x33 x61 x99=>decide ((x99:Int) < (↑((fnd r x61).frm.length):Int))=true->C x33 x61 x99
abbrev q71_13 (r:Run) (C:Nat->Nat->Nat->Prop):Prop:=q71_12 r fun x33 x61 x99=>(!!within ((fnd r x61).frm.getD x99 0) 0 ((↑(r.machines.length):Int) - 1) && decide (0 < (x99:Int)))=true->C x33 x61 x99
abbrev q71_14 (r:Run) (C:Nat->Nat->Nat->Prop):Prop:=q71_12 r fun x33 x61 x99=>(bif !within ((fnd r x61).frm.getD x99 0) 0 ((↑(r.machines.length):Int) - 1) then true else bif decide (0 < (x99:Int)) then decide ((fnd r x61).frm.getD x99 0<=(fnd r x61).frm.getD ((x99:Int) - 1).toNat 0) else false)=false->C x33 x61 x99
abbrev q71_15 (r:Run) (C:Nat->Nat->Nat->Prop):Prop:=q71_11 r fun x33 x61 x99=>decide ((x99:Int) < (↑((fnd r x61).frm.length):Int))=false->C x33 x61 x99
theorem w71 (r:Run)
 (o0:fits r->(!within r.plates 1 3)=false->(!!within r.plates 1 3)=true)
 (o1:fits r->(bif !within r.plates 1 3 then true else !within r.last 1 30)=false->(!bif !within r.plates 1 3 then true else !within r.last 1 30)=true)
 (o2:fits r->(bif bif !within r.plates 1 3 then true else !within r.last 1 30 then true else !within (↑(r.machines.length):Int) 1 3)=false->(!bif bif !within r.plates 1 3 then true else !within r.last 1 30 then true else !within (↑(r.machines.length):Int) 1 3)=true)
 (o3:fits r->(bif bif bif !within r.plates 1 3 then true else !within r.last 1 30 then true else !within (↑(r.machines.length):Int) 1 3 then true else decide (6 < (↑(r.found.length):Int)))=true->60=check r)
 (o4:q71_1 r (0=(↑0:Int)))
 (o5:q71_1 r (0<=r.machines.length /\ ∀ (j:Nat),j < 0->okMachA r (mach r j)=true))
 (o6:q71_2 r fun x33=>0<=(x33:Int))
 (o7:q71_2 r fun x33=>(x33:Int) < (↑(r.machines.length):Int))
 (o8:q71_2 r fun x33=>(!decide ((↑((mach r x33).changes.length):Int)=r.plates))=false->(!!decide ((↑((mach r x33).changes.length):Int)=r.plates))=true)
 (o9:q71_2 r fun x33=>(bif !decide ((↑((mach r x33).changes.length):Int)=r.plates) then true else !within (mach r x33).rate 0 9)=true->60=check r)
 (o10:q71_3 r fun x33=>0=(↑0:Int))
 (o11:q71_3 r fun x33=>0<=(mach r x33).changes.length /\ ∀ (j:Nat),j < 0->isSpan (chg (mach r x33) j) r.last=true)
 (o12:q71_5 r fun x33 x46=>0<=(x46:Int))
 (o13:q71_5 r fun x33 x46=>(x46:Int) < (↑((mach r x33).changes.length):Int))
 (o14:q71_5 r fun x33 x46=>(!within ((mach r x33).changes.getD x46 default).lo 0 ((mach r x33).changes.getD x46 default).hi)=false->(!!within ((mach r x33).changes.getD x46 default).lo 0 ((mach r x33).changes.getD x46 default).hi)=true)
 (o15:q71_5 r fun x33 x46=>(bif !within ((mach r x33).changes.getD x46 default).lo 0 ((mach r x33).changes.getD x46 default).hi then true else decide (r.last < ((mach r x33).changes.getD x46 default).hi))=true->60=check r)
 (o16:q71_6 r fun x33 x46=>inI ((x46:Int) + 1))
 (o17:q71_6 r fun x33 x46=>(x46:Int) + 1=(↑(x46 + 1):Int))
 (o18:q71_6 r fun x33 x46=>x46 + 1<=(mach r x33).changes.length /\ ∀ (j:Nat),j < x46 + 1->isSpan (chg (mach r x33) j) r.last=true)
 (o19:q71_6 r fun x33 x46=>(mach r x33).changes.length - (x46 + 1) < (mach r x33).changes.length - x46)
 (o20:q71_7 r fun x33 x46=>inI ((x33:Int) + 1))
 (o21:q71_7 r fun x33 x46=>(x33:Int) + 1=(↑(x33 + 1):Int))
 (o22:q71_7 r fun x33 x46=>x33 + 1<=r.machines.length /\ ∀ (j:Nat),j < x33 + 1->okMachA r (mach r j)=true)
 (o23:q71_7 r fun x33 x46=>r.machines.length - (x33 + 1) < r.machines.length - x33)
 (o24:q71_8 r fun x33=>0=(↑0:Int))
 (o25:q71_8 r fun x33=>0<=r.found.length /\ ∀ (j:Nat),j < 0->okFndA r (fnd r j)=true)
 (o26:q71_9 r fun x33 x61=>0<=(x61:Int))
 (o27:q71_9 r fun x33 x61=>(x61:Int) < (↑(r.found.length):Int))
 (o28:q71_9 r fun x33 x61=>inI (r.last - 1))
 (o29:q71_9 r fun x33 x61=>(!within (fnd r x61).minute 0 (r.last - 1))=false->(!!within (fnd r x61).minute 0 (r.last - 1))=true)
 (o30:q71_9 r fun x33 x61=>(bif !within (fnd r x61).minute 0 (r.last - 1) then true else !decide ((↑((fnd r x61).new.length):Int)=r.plates))=false->(!bif !within (fnd r x61).minute 0 (r.last - 1) then true else !decide ((↑((fnd r x61).new.length):Int)=r.plates))=true)
 (o31:q71_9 r fun x33 x61=>(!bif bif !within (fnd r x61).minute 0 (r.last - 1) then true else !decide ((↑((fnd r x61).new.length):Int)=r.plates) then true else decide ((↑((fnd r x61).frm.length):Int)=0))=true->(fnd r x61).new.length<=1125899906842624)
 (o32:∀ (E0:Env),fits r->(bif bif bif !within r.plates 1 3 then true else !within r.last 1 30 then true else !within (↑(r.machines.length):Int) 1 3 then true else decide (6 < (↑(r.found.length):Int)))=false -> ∀ (x33:Nat),(x33<=r.machines.length /\ ∀ (j:Nat),j < x33->okMachA r (mach r j)=true)->decide ((x33:Int) < (↑(r.machines.length):Int))=false -> ∀ (x61:Nat),(x61<=r.found.length /\ ∀ (j:Nat),j < x61->okFndA r (fnd r j)=true)->decide ((x61:Int) < (↑(r.found.length):Int))=true->(!bif bif !within (fnd r x61).minute 0 (r.last - 1) then true else !decide ((↑((fnd r x61).new.length):Int)=r.plates) then true else decide ((↑((fnd r x61).frm.length):Int)=0))=true -> ∀ (i91:Env) (i92:List Value),Env.le E0 i91->i92.length=List.length [aInts (fnd r x61).new,AV.fn 0]->(∀ (k:Nat),Rel i91 true (List.getD [aInts (fnd r x61).new,AV.clo 114 []] k AV.any) (i92.getD k undef))->fnokOf Try.prog 0 (fun (n:Int)=>[iv n]) (fun (n:Int)=>bv (badNew n)) (Env.mk i91.1 i91.2 i91.3 fun (k:Nat) (u:Value) => ∃ (i:Nat),[aInts (fnd r x61).new,AV.fn 0][i]? = some (AV.fn k)/\i92[i]? = some u))
 (o33:q71_9 r fun x33 x61=>(bif bif !within (fnd r x61).minute 0 (r.last - 1) then true else !decide ((↑((fnd r x61).new.length):Int)=r.plates) then true else decide ((↑((fnd r x61).frm.length):Int)=0))=false->(!bif bif !within (fnd r x61).minute 0 (r.last - 1) then true else !decide ((↑((fnd r x61).new.length):Int)=r.plates) then true else decide ((↑((fnd r x61).frm.length):Int)=0))=true)
 (o34:q71_9 r fun x33 x61=>(bif bif bif !within (fnd r x61).minute 0 (r.last - 1) then true else !decide ((↑((fnd r x61).new.length):Int)=r.plates) then true else decide ((↑((fnd r x61).frm.length):Int)=0) then true else List.any (fnd r x61).new badNew)=true->60=check r)
 (o35:q71_10 r fun x33 x61=>0=(↑0:Int))
 (o36:q71_10 r fun x33 x61=>0<=(fnd r x61).frm.length /\ ∀ (j:Nat),j < 0->risAt (fnd r x61).frm 0 ((↑(r.machines.length):Int) - 1) j=true)
 (o37:q71_12 r fun x33 x61 x99=>0<=(x99:Int))
 (o38:q71_12 r fun x33 x61 x99=>(x99:Int) < (↑((fnd r x61).frm.length):Int))
 (o39:q71_12 r fun x33 x61 x99=>inI ((↑(r.machines.length):Int) - 1))
 (o40:q71_13 r fun x33 x61 x99=>inI ((x99:Int) - 1))
 (o41:q71_13 r fun x33 x61 x99=>0<=(x99:Int) - 1)
 (o42:q71_13 r fun x33 x61 x99=>(x99:Int) - 1 < (↑((fnd r x61).frm.length):Int))
 (o43:q71_12 r fun x33 x61 x99=>(!!within ((fnd r x61).frm.getD x99 0) 0 ((↑(r.machines.length):Int) - 1))=true->decide (0 < (x99:Int))=true->(!!within ((fnd r x61).frm.getD x99 0) 0 ((↑(r.machines.length):Int) - 1) && decide (0 < (x99:Int)))=true)
 (o44:q71_12 r fun x33 x61 x99=>(!within ((fnd r x61).frm.getD x99 0) 0 ((↑(r.machines.length):Int) - 1))=false->(!!within ((fnd r x61).frm.getD x99 0) 0 ((↑(r.machines.length):Int) - 1))=true)
 (o45:q71_12 r fun x33 x61 x99=>(bif !within ((fnd r x61).frm.getD x99 0) 0 ((↑(r.machines.length):Int) - 1) then true else bif decide (0 < (x99:Int)) then decide ((fnd r x61).frm.getD x99 0<=(fnd r x61).frm.getD ((x99:Int) - 1).toNat 0) else false)=true->60=check r)
 (o46:q71_14 r fun x33 x61 x99=>inI ((x99:Int) + 1))
 (o47:q71_14 r fun x33 x61 x99=>(x99:Int) + 1=(↑(x99 + 1):Int))
 (o48:q71_14 r fun x33 x61 x99=>x99 + 1<=(fnd r x61).frm.length /\ ∀ (j:Nat),j < x99 + 1->risAt (fnd r x61).frm 0 ((↑(r.machines.length):Int) - 1) j=true)
 (o49:q71_14 r fun x33 x61 x99=>(fnd r x61).frm.length - (x99 + 1) < (fnd r x61).frm.length - x99)
 (o50:q71_15 r fun x33 x61 x99=>inI ((x61:Int) + 1))
 (o51:q71_15 r fun x33 x61 x99=>(x61:Int) + 1=(↑(x61 + 1):Int))
 (o52:q71_15 r fun x33 x61 x99=>x61 + 1<=r.found.length /\ ∀ (j:Nat),j < x61 + 1->okFndA r (fnd r j)=true)
 (o53:q71_15 r fun x33 x61 x99=>r.found.length - (x61 + 1) < r.found.length - x61)
 (o54:q71_8 r fun x33 => ∀ (x61:Nat),(x61<=r.found.length /\ ∀ (j:Nat),j < x61->okFndA r (fnd r j)=true)->decide ((x61:Int) < (↑(r.found.length):Int))=false->0=check r) :
  Triple Try.prog 71 (s71 r):=by
 refine triple_of Try.func71 rfl Try.call71 T0_ok _ rfl rfl rfl rfl (Nat.le_of_ble_eq_true (by kernel_rfl)) (fun _ _ _ _ h=>h) ?_
 intro hp C hC _ hE
 obtain ⟨P,w0,E0,av,hA⟩:=C
 subst hC
 refine swp_seq ?_
 refine sQ (kt:=[1]) (kh:=[0]) (q:=tn 2) (st':=ASt.mk [(1,.ptr 0 [])] [(0,.cells 25 (cRun r))] 16) (tp 2) ?_
 refine swp_seq (swp_seq ?_)
 refine sC (cs:=[(2,CallSpec.eq (s112 r.plates 1 3) [true,true,true]),(7,CallSpec.eq (s112 r.last 1 30) [true,true,true]),(14,CallSpec.eq (s112 (↑(r.machines.length):Int) 1 3) [true,true,true])]) (kt:=[1,33]) (kh:=[0]) (q:=True/\True/\((zE (iv r.plates)/\iv 1=iv 1/\iv 3=iv 3/\True)/\Triple Try.prog 112 (s112 r.plates 1 3)/\True/\True /\ ∀ (i0:Env),True)/\True/\True/\((!!within r.plates 1 3)=true->(True/\True)/\True)/\((!!within r.plates 1 3)=true->(((!!within r.plates 1 3)=true->(!!within r.plates 1 3)=true)/\True)/\True)/\((!!within r.plates 1 3)=true->(True/\((!!within r.plates 1 3)=true->(!!within r.plates 1 3)=true)/\True/\True/\True)/\(zE (iv r.last)/\iv 1=iv 1/\iv 30=iv 30/\True)/\Triple Try.prog 112 (s112 r.last 1 30)/\True/\True /\ ∀ (i6:Env),True)/\((!!within r.plates 1 3)=true->(((!!within r.plates 1 3)=true->(!!within r.plates 1 3)=true)/\True)/\True)/\(((!within r.plates 1 3)=true->True)/\((!within r.plates 1 3)=false->(!!within r.plates 1 3)=true))/\True/\((!bif !within r.plates 1 3 then true else !within r.last 1 30)=true->(True/\True)/\True)/\((!bif !within r.plates 1 3 then true else !within r.last 1 30)=true->(((!bif !within r.plates 1 3 then true else !within r.last 1 30)=true->(!bif !within r.plates 1 3 then true else !within r.last 1 30)=true)/\True)/\True)/\((!bif !within r.plates 1 3 then true else !within r.last 1 30)=true->(((!bif !within r.plates 1 3 then true else !within r.last 1 30)=true->(!bif !within r.plates 1 3 then true else !within r.last 1 30)=true)/\True)/\True)/\((!bif !within r.plates 1 3 then true else !within r.last 1 30)=true->(True/\((!bif !within r.plates 1 3 then true else !within r.last 1 30)=true->(!bif !within r.plates 1 3 then true else !within r.last 1 30)=true)/\True/\True/\True)/\(zE (iv (↑(r.machines.length):Int))/\iv 1=iv 1/\iv 3=iv 3/\True)/\Triple Try.prog 112 (s112 (↑(r.machines.length):Int) 1 3)/\True/\True /\ ∀ (i18:Env),True)/\((!bif !within r.plates 1 3 then true else !within r.last 1 30)=true->(((!bif !within r.plates 1 3 then true else !within r.last 1 30)=true->(!bif !within r.plates 1 3 then true else !within r.last 1 30)=true)/\True)/\True)/\(((bif !within r.plates 1 3 then true else !within r.last 1 30)=true->True)/\((bif !within r.plates 1 3 then true else !within r.last 1 30)=false->(!bif !within r.plates 1 3 then true else !within r.last 1 30)=true))/\True/\((!bif bif !within r.plates 1 3 then true else !within r.last 1 30 then true else !within (↑(r.machines.length):Int) 1 3)=true->(True/\True)/\True)/\((!bif bif !within r.plates 1 3 then true else !within r.last 1 30 then true else !within (↑(r.machines.length):Int) 1 3)=true->(((!bif bif !within r.plates 1 3 then true else !within r.last 1 30 then true else !within (↑(r.machines.length):Int) 1 3)=true->(!bif bif !within r.plates 1 3 then true else !within r.last 1 30 then true else !within (↑(r.machines.length):Int) 1 3)=true)/\True)/\True)/\((!bif bif !within r.plates 1 3 then true else !within r.last 1 30 then true else !within (↑(r.machines.length):Int) 1 3)=true->(((!bif bif !within r.plates 1 3 then true else !within r.last 1 30 then true else !within (↑(r.machines.length):Int) 1 3)=true->(!bif bif !within r.plates 1 3 then true else !within r.last 1 30 then true else !within (↑(r.machines.length):Int) 1 3)=true)/\True)/\True)/\((!bif bif !within r.plates 1 3 then true else !within r.last 1 30 then true else !within (↑(r.machines.length):Int) 1 3)=true->(((!bif bif !within r.plates 1 3 then true else !within r.last 1 30 then true else !within (↑(r.machines.length):Int) 1 3)=true->(!bif bif !within r.plates 1 3 then true else !within r.last 1 30 then true else !within (↑(r.machines.length):Int) 1 3)=true)/\True/\True)/\True)/\(((bif bif !within r.plates 1 3 then true else !within r.last 1 30 then true else !within (↑(r.machines.length):Int) 1 3)=true->True)/\((bif bif !within r.plates 1 3 then true else !within r.last 1 30 then true else !within (↑(r.machines.length):Int) 1 3)=false->(!bif bif !within r.plates 1 3 then true else !within r.last 1 30 then true else !within (↑(r.machines.length):Int) 1 3)=true))/\True) (st':=ASt.mk [(1,.ptr 0 []),(33,bv (bif bif bif !within r.plates 1 3 then true else !within r.last 1 30 then true else !within (↑(r.machines.length):Int) 1 3 then true else decide (6 < (↑(r.found.length):Int))))] [(0,.cells 25 (cRun r))] 200) ⟨tv,tv,⟨⟨rfl,rfl,rfl,tv⟩,(t112 r.plates (1) (3)),tv,tv,(fun i0=>tv)⟩,tv,tv,(fun h1=>⟨⟨tv,tv⟩,tv⟩),(fun h2=>⟨⟨(fun h3=>h2),tv⟩,tv⟩),(fun h4=>⟨⟨tv,(fun h5=>h4),tv,tv,tv⟩,⟨rfl,rfl,rfl,tv⟩,(t112 r.last (1) (30)),tv,tv,(fun i6=>tv)⟩),(fun h7=>⟨⟨(fun h8=>h7),tv⟩,tv⟩),⟨(fun h9=>tv),(fun h10=>(o0 hp h10))⟩,tv,(fun h11=>⟨⟨tv,tv⟩,tv⟩),(fun h12=>⟨⟨(fun h13=>h12),tv⟩,tv⟩),(fun h14=>⟨⟨(fun h15=>h14),tv⟩,tv⟩),(fun h16=>⟨⟨tv,(fun h17=>h16),tv,tv,tv⟩,⟨rfl,rfl,rfl,tv⟩,(t112 ((↑(r.machines.length):Int)) (1) (3)),tv,tv,(fun i18=>tv)⟩),(fun h19=>⟨⟨(fun h20=>h19),tv⟩,tv⟩),⟨(fun h21=>tv),(fun h22=>(o1 hp h22))⟩,tv,(fun h23=>⟨⟨tv,tv⟩,tv⟩),(fun h24=>⟨⟨(fun h25=>h24),tv⟩,tv⟩),(fun h26=>⟨⟨(fun h27=>h26),tv⟩,tv⟩),(fun h28=>⟨⟨(fun h29=>h28),tv,tv⟩,tv⟩),⟨(fun h30=>tv),(fun h31=>(o2 hp h31))⟩,tv⟩ ?_
 refine swp_cond (bif bif bif !within r.plates 1 3 then true else !within r.last 1 30 then true else !within (↑(r.machines.length):Int) 1 3 then true else decide (6 < (↑(r.found.length):Int))) (by kernel_rfl) (fun h32 => ?_) (fun h32 => ?_)
 ·refine swp_seq ?_
  refine sQ (kt:=[2]) (kh:=[]) (q:=True/\True) (st':=ASt.mk [(2,iv 60)] [] 208) ⟨tv,tv⟩ ?_
  refine swp_ret ?_
  exact rQ [] ((True/\True)/\(zN (iv 60) (iv (check r)))/\T3) ⟨⟨tv,tv⟩,⟨(congrArg iv (o3 hp h32)),rfl⟩,rfl,rfl,rfl⟩
 ·refine swp_skip (swp_seq (swp_seq ?_))
  refine sQ (kt:=[1,35,36,37]) (kh:=[0]) (q:=tn 4) (st':=ASt.mk [(1,.ptr 0 []),(35,.sl 2 r.machines.length fun (i:Nat)=>cMach (mach r i)),(36,iv (↑(r.machines.length):Int)),(37,iv 0)] [(0,.cells 25 (cRun r))] 232) (tp 4) ?_
  refine swp_block ?_
  refine swp_loopA (z71_3 r) (eQ hE [] [(0,.same 0)] [35,36] [0] (((zP 0)/\(zT (AV.sl 2 r.machines.length fun (i:Nat)=>cMach (mach r i)))/\(zT (iv (↑(r.machines.length):Int)))/\(zN (iv 0) (iv (↑0:Int)))/\True)/\((zT (OB.cells 25 (cRun r)))/\True)/\T2) ⟨⟨⟨rfl,rfl⟩,⟨rfl,rfl⟩,⟨rfl,rfl⟩,⟨(congrArg iv (o4 hp h32)),rfl⟩,tv⟩,⟨⟨rfl,rfl⟩,tv⟩,rfl,rfl⟩) (o5 hp h32) (fun (x33:Nat) hx33 => ?_)
  refine swp_seq ?_
  refine sQ (kt:=[1,35,36,37,38]) (kh:=[0]) (q:=True/\True) (st':=ASt.mk [(1,.ptr 0 []),(35,.sl 2 r.machines.length fun (i:Nat)=>cMach (mach r i)),(36,iv (↑(r.machines.length):Int)),(37,iv (x33:Int)),(38,bv (decide ((x33:Int) < (↑(r.machines.length):Int))))] [(0,.cells 25 (cRun r))] 10240) ⟨tv,tv⟩ ?_
  refine swp_seq ?_
  refine swp_cond (decide ((x33:Int) < (↑(r.machines.length):Int))) (by kernel_rfl) (fun h34 => ?_) (fun h34 => ?_)
  ·refine swp_skip (swp_seq (swp_block (swp_seq ?_)))
   refine sQ (kt:=[1,35,36,37,4]) (kh:=[0,10256]) (q:=(0<=(x33:Int)/\(x33:Int) < (↑(r.machines.length):Int))/\tn 3) (st':=ASt.mk [(1,.ptr 0 []),(35,.sl 2 r.machines.length fun (i:Nat)=>cMach (mach r i)),(36,iv (↑(r.machines.length):Int)),(37,iv (x33:Int)),(4,.ptr 10256 [])] [(0,.cells 25 (cRun r)),(10256,.cells 42 (cMach (mach r x33)))] 10272) ⟨⟨(o6 hp h32 x33 hx33 h34),(o7 hp h32 x33 hx33 h34)⟩,tp 3⟩ ?_
   refine swp_seq (swp_seq ?_)
   refine sC (cs:=[(9,CallSpec.eq (s112 (mach r x33).rate 0 9) [true,true,true])]) (kt:=[1,35,36,37,4,52]) (kh:=[0,10256]) (q:=True/\True/\True/\True/\True/\True/\True/\((!!decide ((↑((mach r x33).changes.length):Int)=r.plates))->(True/\True)/\True)/\((!!decide ((↑((mach r x33).changes.length):Int)=r.plates))->(((!!decide ((↑((mach r x33).changes.length):Int)=r.plates))->(!!decide ((↑((mach r x33).changes.length):Int)=r.plates))=true)/\True)/\True)/\((!!decide ((↑((mach r x33).changes.length):Int)=r.plates))->(True/\((!!decide ((↑((mach r x33).changes.length):Int)=r.plates))->(!!decide ((↑((mach r x33).changes.length):Int)=r.plates))=true)/\True/\True/\True)/\(zE (iv (mach r x33).rate)/\iv 0=iv 0/\iv 9=iv 9/\True)/\Triple Try.prog 112 (s112 (mach r x33).rate 0 9)/\True/\True /\ ∀ (i40:Env),True)/\((!!decide ((↑((mach r x33).changes.length):Int)=r.plates))->(((!!decide ((↑((mach r x33).changes.length):Int)=r.plates))->(!!decide ((↑((mach r x33).changes.length):Int)=r.plates))=true)/\True)/\True)/\(((!decide ((↑((mach r x33).changes.length):Int)=r.plates))->True)/\((!decide ((↑((mach r x33).changes.length):Int)=r.plates))=false->(!!decide ((↑((mach r x33).changes.length):Int)=r.plates))=true))/\True) (st':=ASt.mk [(1,.ptr 0 []),(35,.sl 2 r.machines.length fun (i:Nat)=>cMach (mach r i)),(36,iv (↑(r.machines.length):Int)),(37,iv (x33:Int)),(4,.ptr 10256 []),(52,bv (bif !decide ((↑((mach r x33).changes.length):Int)=r.plates) then true else !within (mach r x33).rate 0 9))] [(0,.cells 25 (cRun r)),(10256,.cells 42 (cMach (mach r x33)))] 10368) ⟨tv,tv,tv,tv,tv,tv,tv,(fun h35=>⟨⟨tv,tv⟩,tv⟩),(fun h36=>⟨⟨(fun h37=>h36),tv⟩,tv⟩),(fun h38=>⟨⟨tv,(fun h39=>h38),tv,tv,tv⟩,⟨rfl,rfl,rfl,tv⟩,(t112 (mach r x33).rate (0) (9)),tv,tv,(fun i40=>tv)⟩),(fun h41=>⟨⟨(fun h42=>h41),tv⟩,tv⟩),⟨(fun h43=>tv),(fun h44=>(o8 hp h32 x33 hx33 h34 h44))⟩,tv⟩ ?_
   refine swp_cond (bif !decide ((↑((mach r x33).changes.length):Int)=r.plates) then true else !within (mach r x33).rate 0 9) (by kernel_rfl) (fun h45 => ?_) (fun h45 => ?_)
   ·refine swp_seq ?_
    refine sQ (kt:=[2]) (kh:=[]) (q:=True/\True) (st':=ASt.mk [(2,iv 60)] [] 10376) ⟨tv,tv⟩ ?_
    refine swp_ret ?_
    exact rQ [] ((True/\True)/\(zN (iv 60) (iv (check r)))/\T3) ⟨⟨tv,tv⟩,⟨(congrArg iv (o9 hp h32 x33 hx33 h34 h45)),rfl⟩,rfl,rfl,rfl⟩
   ·refine swp_skip (swp_seq ?_)
    refine sQ (kt:=[1,35,36,37,54,55,56]) (kh:=[0]) (q:=tn 4) (st':=ASt.mk [(1,.ptr 0 []),(35,.sl 2 r.machines.length fun (i:Nat)=>cMach (mach r i)),(36,iv (↑(r.machines.length):Int)),(37,iv (x33:Int)),(54,aSpans (mach r x33).changes),(55,iv (↑((mach r x33).changes.length):Int)),(56,iv 0)] [(0,.cells 25 (cRun r))] 10400) (tp 4) ?_
    refine swp_block ?_
    refine swp_loopA (z71_2 r x33) (eQ hE [] [(0,.same 0)] [35,36,37,54,55] [0] (((zP 0)/\(zT (AV.sl 2 r.machines.length fun (i:Nat)=>cMach (mach r i)))/\(zT (iv (↑(r.machines.length):Int)))/\(zT (iv (x33:Int)))/\(zT (aSpans (mach r x33).changes))/\(zT (iv (↑((mach r x33).changes.length):Int)))/\(zN (iv 0) (iv (↑0:Int)))/\True)/\((zT (OB.cells 25 (cRun r)))/\True)/\T2) ⟨⟨⟨rfl,rfl⟩,⟨rfl,rfl⟩,⟨rfl,rfl⟩,⟨rfl,rfl⟩,⟨rfl,rfl⟩,⟨rfl,rfl⟩,⟨(congrArg iv (o10 hp h32 x33 hx33 h34 h45)),rfl⟩,tv⟩,⟨⟨rfl,rfl⟩,tv⟩,rfl,rfl⟩) (o11 hp h32 x33 hx33 h34 h45) (fun (x46:Nat) hx46 => ?_)
    refine swp_seq ?_
    refine sQ (kt:=[1,35,36,37,54,55,56,57]) (kh:=[0]) (q:=True/\True) (st':=ASt.mk [(1,.ptr 0 []),(35,.sl 2 r.machines.length fun (i:Nat)=>cMach (mach r i)),(36,iv (↑(r.machines.length):Int)),(37,iv (x33:Int)),(54,aSpans (mach r x33).changes),(55,iv (↑((mach r x33).changes.length):Int)),(56,iv (x46:Int)),(57,bv (decide ((x46:Int) < (↑((mach r x33).changes.length):Int))))] [(0,.cells 25 (cRun r))] 20408) ⟨tv,tv⟩ ?_
    refine swp_seq ?_
    refine swp_cond (decide ((x46:Int) < (↑((mach r x33).changes.length):Int))) (by kernel_rfl) (fun h47 => ?_) (fun h47 => ?_)
    ·refine swp_skip (swp_seq (swp_block (swp_seq ?_)))
     refine sQ (kt:=[1,35,36,37,54,55,56,6]) (kh:=[0,20424]) (q:=(0<=(x46:Int)/\(x46:Int) < (↑((mach r x33).changes.length):Int))/\tn 3) (st':=ASt.mk [(1,.ptr 0 []),(35,.sl 2 r.machines.length fun (i:Nat)=>cMach (mach r i)),(36,iv (↑(r.machines.length):Int)),(37,iv (x33:Int)),(54,aSpans (mach r x33).changes),(55,iv (↑((mach r x33).changes.length):Int)),(56,iv (x46:Int)),(6,.ptr 20424 [])] [(0,.cells 25 (cRun r)),(20424,.cells 37 (cSpan ((mach r x33).changes.getD x46 default)))] 20440) ⟨⟨(o12 hp h32 x33 hx33 h34 h45 x46 hx46 h47),(o13 hp h32 x33 hx33 h34 h45 x46 hx46 h47)⟩,tp 3⟩ ?_
     refine swp_seq ?_
     refine sC (cs:=[(4,CallSpec.eq (s112 ((mach r x33).changes.getD x46 default).lo 0 ((mach r x33).changes.getD x46 default).hi) [true,true,true])]) (kt:=[1,35,36,37,54,55,56,72]) (kh:=[0]) (q:=True/\True/\True/\True/\((zE (iv ((mach r x33).changes.getD x46 default).lo)/\iv 0=iv 0/\zE (iv ((mach r x33).changes.getD x46 default).hi)/\True)/\Triple Try.prog 112 (s112 ((mach r x33).changes.getD x46 default).lo 0 ((mach r x33).changes.getD x46 default).hi)/\True/\True /\ ∀ (i48:Env),True)/\True/\True/\((!!within ((mach r x33).changes.getD x46 default).lo 0 ((mach r x33).changes.getD x46 default).hi)=true->(True/\True)/\True)/\((!!within ((mach r x33).changes.getD x46 default).lo 0 ((mach r x33).changes.getD x46 default).hi)=true->(((!!within ((mach r x33).changes.getD x46 default).lo 0 ((mach r x33).changes.getD x46 default).hi)=true->(!!within ((mach r x33).changes.getD x46 default).lo 0 ((mach r x33).changes.getD x46 default).hi)=true)/\True)/\True)/\((!!within ((mach r x33).changes.getD x46 default).lo 0 ((mach r x33).changes.getD x46 default).hi)=true->(True/\True)/\True)/\((!!within ((mach r x33).changes.getD x46 default).lo 0 ((mach r x33).changes.getD x46 default).hi)=true->(((!!within ((mach r x33).changes.getD x46 default).lo 0 ((mach r x33).changes.getD x46 default).hi)=true->(!!within ((mach r x33).changes.getD x46 default).lo 0 ((mach r x33).changes.getD x46 default).hi)=true)/\True)/\True)/\((!!within ((mach r x33).changes.getD x46 default).lo 0 ((mach r x33).changes.getD x46 default).hi)=true->(((!!within ((mach r x33).changes.getD x46 default).lo 0 ((mach r x33).changes.getD x46 default).hi)=true->(!!within ((mach r x33).changes.getD x46 default).lo 0 ((mach r x33).changes.getD x46 default).hi)=true)/\((!!within ((mach r x33).changes.getD x46 default).lo 0 ((mach r x33).changes.getD x46 default).hi)=true->(!!within ((mach r x33).changes.getD x46 default).lo 0 ((mach r x33).changes.getD x46 default).hi)=true)/\True)/\True)/\(((!within ((mach r x33).changes.getD x46 default).lo 0 ((mach r x33).changes.getD x46 default).hi)=true->True)/\((!within ((mach r x33).changes.getD x46 default).lo 0 ((mach r x33).changes.getD x46 default).hi)=false->(!!within ((mach r x33).changes.getD x46 default).lo 0 ((mach r x33).changes.getD x46 default).hi)=true))/\True) (st':=ASt.mk [(1,.ptr 0 []),(35,.sl 2 r.machines.length fun (i:Nat)=>cMach (mach r i)),(36,iv (↑(r.machines.length):Int)),(37,iv (x33:Int)),(54,aSpans (mach r x33).changes),(55,iv (↑((mach r x33).changes.length):Int)),(56,iv (x46:Int)),(72,bv (bif !within ((mach r x33).changes.getD x46 default).lo 0 ((mach r x33).changes.getD x46 default).hi then true else decide (r.last < ((mach r x33).changes.getD x46 default).hi)))] [(0,.cells 25 (cRun r))] 20544) ⟨tv,tv,tv,tv,⟨⟨rfl,rfl,rfl,tv⟩,(t112 ((mach r x33).changes.getD x46 default).lo (0) ((mach r x33).changes.getD x46 default).hi),tv,tv,(fun i48=>tv)⟩,tv,tv,(fun h49=>⟨⟨tv,tv⟩,tv⟩),(fun h50=>⟨⟨(fun h51=>h50),tv⟩,tv⟩),(fun h52=>⟨⟨tv,tv⟩,tv⟩),(fun h53=>⟨⟨(fun h54=>h53),tv⟩,tv⟩),(fun h55=>⟨⟨(fun h56=>h55),(fun h57=>h55),tv⟩,tv⟩),⟨(fun h58=>tv),(fun h59=>(o14 hp h32 x33 hx33 h34 h45 x46 hx46 h47 h59))⟩,tv⟩ ?_
     refine swp_cond (bif !within ((mach r x33).changes.getD x46 default).lo 0 ((mach r x33).changes.getD x46 default).hi then true else decide (r.last < ((mach r x33).changes.getD x46 default).hi)) (by kernel_rfl) (fun h60 => ?_) (fun h60 => ?_)
     ·refine swp_seq ?_
      refine sQ (kt:=[2]) (kh:=[]) (q:=True/\True) (st':=ASt.mk [(2,iv 60)] [] 20552) ⟨tv,tv⟩ ?_
      refine swp_ret ?_
      exact rQ [] ((True/\True)/\(zN (iv 60) (iv (check r)))/\T3) ⟨⟨tv,tv⟩,⟨(congrArg iv (o15 hp h32 x33 hx33 h34 h45 x46 hx46 h47 h60)),rfl⟩,rfl,rfl,rfl⟩
     ·refine swp_skip ?_
      refine sQ (kt:=[1,35,36,37,54,55,56]) (kh:=[0]) (q:=inI ((x46:Int) + 1)/\True/\True) (st':=ASt.mk [(1,.ptr 0 []),(35,.sl 2 r.machines.length fun (i:Nat)=>cMach (mach r i)),(36,iv (↑(r.machines.length):Int)),(37,iv (x33:Int)),(54,aSpans (mach r x33).changes),(55,iv (↑((mach r x33).changes.length):Int)),(56,iv ((x46:Int) + 1))] [(0,.cells 25 (cRun r))] 20560) ⟨(o16 hp h32 x33 hx33 h34 h45 x46 hx46 h47 h60),tv,tv⟩ ?_
      exact loop_next (z71_2 r x33) x46 (eQ hE [] [(0,.same 0)] [35,36,37,54,55] [0] (((zP 0)/\(zT (AV.sl 2 r.machines.length fun (i:Nat)=>cMach (mach r i)))/\(zT (iv (↑(r.machines.length):Int)))/\(zT (iv (x33:Int)))/\(zT (aSpans (mach r x33).changes))/\(zT (iv (↑((mach r x33).changes.length):Int)))/\(zN (iv ((x46:Int) + 1)) (iv (↑(x46 + 1):Int)))/\True)/\((zT (OB.cells 25 (cRun r)))/\True)/\T2) ⟨⟨⟨rfl,rfl⟩,⟨rfl,rfl⟩,⟨rfl,rfl⟩,⟨rfl,rfl⟩,⟨rfl,rfl⟩,⟨rfl,rfl⟩,⟨(congrArg iv (o17 hp h32 x33 hx33 h34 h45 x46 hx46 h47 h60)),rfl⟩,tv⟩,⟨⟨rfl,rfl⟩,tv⟩,rfl,rfl⟩) (o18 hp h32 x33 hx33 h34 h45 x46 hx46 h47 h60) (o19 hp h32 x33 hx33 h34 h45 x46 hx46 h47 h60)
    ·refine swp_exit ?_
     refine sQ (kt:=[1,35,36,37]) (kh:=[0]) (q:=inI ((x33:Int) + 1)/\True/\True) (st':=ASt.mk [(1,.ptr 0 []),(35,.sl 2 r.machines.length fun (i:Nat)=>cMach (mach r i)),(36,iv (↑(r.machines.length):Int)),(37,iv ((x33:Int) + 1))] [(0,.cells 25 (cRun r))] 20424) ⟨(o20 hp h32 x33 hx33 h34 h45 x46 hx46 h47),tv,tv⟩ ?_
     exact loop_next (z71_3 r) x33 (eQ hE [] [(0,.same 0)] [35,36] [0] (((zP 0)/\(zT (AV.sl 2 r.machines.length fun (i:Nat)=>cMach (mach r i)))/\(zT (iv (↑(r.machines.length):Int)))/\(zN (iv ((x33:Int) + 1)) (iv (↑(x33 + 1):Int)))/\True)/\((zT (OB.cells 25 (cRun r)))/\True)/\T2) ⟨⟨⟨rfl,rfl⟩,⟨rfl,rfl⟩,⟨rfl,rfl⟩,⟨(congrArg iv (o21 hp h32 x33 hx33 h34 h45 x46 hx46 h47)),rfl⟩,tv⟩,⟨⟨rfl,rfl⟩,tv⟩,rfl,rfl⟩) (o22 hp h32 x33 hx33 h34 h45 x46 hx46 h47) (o23 hp h32 x33 hx33 h34 h45 x46 hx46 h47)
  ·refine swp_exit (swp_seq (swp_seq ?_))
   refine sQ (kt:=[1,76,77,78]) (kh:=[0]) (q:=tn 4) (st':=ASt.mk [(1,.ptr 0 []),(76,.sl 3 r.found.length fun (i:Nat)=>cFnd (fnd r i)),(77,iv (↑(r.found.length):Int)),(78,iv 0)] [(0,.cells 25 (cRun r))] 10272) (tp 4) ?_
   refine swp_block ?_
   refine swp_loopA (z71_4 r) (eQ hE [] [(0,.same 0)] [76,77] [0] (((zP 0)/\(zT (AV.sl 3 r.found.length fun (i:Nat)=>cFnd (fnd r i)))/\(zT (iv (↑(r.found.length):Int)))/\(zN (iv 0) (iv (↑0:Int)))/\True)/\((zT (OB.cells 25 (cRun r)))/\True)/\T2) ⟨⟨⟨rfl,rfl⟩,⟨rfl,rfl⟩,⟨rfl,rfl⟩,⟨(congrArg iv (o24 hp h32 x33 hx33 h34)),rfl⟩,tv⟩,⟨⟨rfl,rfl⟩,tv⟩,rfl,rfl⟩) (o25 hp h32 x33 hx33 h34) (fun (x61:Nat) hx61 => ?_)
   refine swp_seq ?_
   refine sQ (kt:=[1,76,77,78,79]) (kh:=[0]) (q:=True/\True) (st':=ASt.mk [(1,.ptr 0 []),(76,.sl 3 r.found.length fun (i:Nat)=>cFnd (fnd r i)),(77,iv (↑(r.found.length):Int)),(78,iv (x61:Int)),(79,bv (decide ((x61:Int) < (↑(r.found.length):Int))))] [(0,.cells 25 (cRun r))] 20280) ⟨tv,tv⟩ ?_
   refine swp_seq ?_
   refine swp_cond (decide ((x61:Int) < (↑(r.found.length):Int))) (by kernel_rfl) (fun h62 => ?_) (fun h62 => ?_)
   ·refine swp_skip (swp_seq (swp_block (swp_seq ?_)))
    refine sQ (kt:=[1,76,77,78,8]) (kh:=[0,20296]) (q:=(0<=(x61:Int)/\(x61:Int) < (↑(r.found.length):Int))/\tn 3) (st':=ASt.mk [(1,.ptr 0 []),(76,.sl 3 r.found.length fun (i:Nat)=>cFnd (fnd r i)),(77,iv (↑(r.found.length):Int)),(78,iv (x61:Int)),(8,.ptr 20296 [])] [(0,.cells 25 (cRun r)),(20296,.cells 32 (cFnd (fnd r x61)))] 20312) ⟨⟨(o26 hp h32 x33 hx33 h34 x61 hx61 h62),(o27 hp h32 x33 hx33 h34 x61 hx61 h62)⟩,tp 3⟩ ?_
    refine swp_seq (swp_seq ?_)
    refine sC (cs:=[(5,CallSpec.eq (s112 (fnd r x61).minute 0 (r.last - 1)) [true,true,true]),(24,CallSpec.eq (c71 r x61) [true,false])]) (kt:=[1,76,77,78,8,107]) (kh:=[0,20296]) (q:=True/\True/\True/\True/\inI (r.last - 1)/\((zE (iv (fnd r x61).minute)/\iv 0=iv 0/\zE (iv (r.last - 1))/\True)/\Triple Try.prog 112 (s112 (fnd r x61).minute 0 (r.last - 1))/\True/\True /\ ∀ (i63:Env),True)/\True/\True/\((!!within (fnd r x61).minute 0 (r.last - 1))=true->(True/\True)/\True)/\((!!within (fnd r x61).minute 0 (r.last - 1))=true->(((!!within (fnd r x61).minute 0 (r.last - 1))=true->(!!within (fnd r x61).minute 0 (r.last - 1))=true)/\True)/\True)/\((!!within (fnd r x61).minute 0 (r.last - 1))=true->(((!!within (fnd r x61).minute 0 (r.last - 1))=true->(!!within (fnd r x61).minute 0 (r.last - 1))=true)/\True)/\True)/\((!!within (fnd r x61).minute 0 (r.last - 1))=true->(True/\True)/\True)/\((!!within (fnd r x61).minute 0 (r.last - 1))=true->(((!!within (fnd r x61).minute 0 (r.last - 1))=true->(!!within (fnd r x61).minute 0 (r.last - 1))=true)/\True)/\True)/\((!!within (fnd r x61).minute 0 (r.last - 1))=true->(((!!within (fnd r x61).minute 0 (r.last - 1))=true->(!!within (fnd r x61).minute 0 (r.last - 1))=true)/\((!!within (fnd r x61).minute 0 (r.last - 1))=true->(!!within (fnd r x61).minute 0 (r.last - 1))=true)/\True)/\True)/\(((!within (fnd r x61).minute 0 (r.last - 1))=true->True)/\((!within (fnd r x61).minute 0 (r.last - 1))=false->(!!within (fnd r x61).minute 0 (r.last - 1))=true))/\True/\((!bif !within (fnd r x61).minute 0 (r.last - 1) then true else !decide ((↑((fnd r x61).new.length):Int)=r.plates))=true->(True/\True)/\True)/\((!bif !within (fnd r x61).minute 0 (r.last - 1) then true else !decide ((↑((fnd r x61).new.length):Int)=r.plates))=true->(((!bif !within (fnd r x61).minute 0 (r.last - 1) then true else !decide ((↑((fnd r x61).new.length):Int)=r.plates))=true->(!bif !within (fnd r x61).minute 0 (r.last - 1) then true else !decide ((↑((fnd r x61).new.length):Int)=r.plates))=true)/\True)/\True)/\((!bif !within (fnd r x61).minute 0 (r.last - 1) then true else !decide ((↑((fnd r x61).new.length):Int)=r.plates))=true->(((!bif !within (fnd r x61).minute 0 (r.last - 1) then true else !decide ((↑((fnd r x61).new.length):Int)=r.plates))=true->(!bif !within (fnd r x61).minute 0 (r.last - 1) then true else !decide ((↑((fnd r x61).new.length):Int)=r.plates))=true)/\True)/\True)/\((!bif !within (fnd r x61).minute 0 (r.last - 1) then true else !decide ((↑((fnd r x61).new.length):Int)=r.plates))=true->(((!bif !within (fnd r x61).minute 0 (r.last - 1) then true else !decide ((↑((fnd r x61).new.length):Int)=r.plates))=true->(!bif !within (fnd r x61).minute 0 (r.last - 1) then true else !decide ((↑((fnd r x61).new.length):Int)=r.plates))=true)/\True/\True)/\True)/\(((bif !within (fnd r x61).minute 0 (r.last - 1) then true else !decide ((↑((fnd r x61).new.length):Int)=r.plates))=true->True)/\((bif !within (fnd r x61).minute 0 (r.last - 1) then true else !decide ((↑((fnd r x61).new.length):Int)=r.plates))=false->(!bif !within (fnd r x61).minute 0 (r.last - 1) then true else !decide ((↑((fnd r x61).new.length):Int)=r.plates))=true))/\True/\((!bif bif !within (fnd r x61).minute 0 (r.last - 1) then true else !decide ((↑((fnd r x61).new.length):Int)=r.plates) then true else decide ((↑((fnd r x61).frm.length):Int)=0))=true->(True/\True)/\True)/\((!bif bif !within (fnd r x61).minute 0 (r.last - 1) then true else !decide ((↑((fnd r x61).new.length):Int)=r.plates) then true else decide ((↑((fnd r x61).frm.length):Int)=0))=true->(((!bif bif !within (fnd r x61).minute 0 (r.last - 1) then true else !decide ((↑((fnd r x61).new.length):Int)=r.plates) then true else decide ((↑((fnd r x61).frm.length):Int)=0))=true->(!bif bif !within (fnd r x61).minute 0 (r.last - 1) then true else !decide ((↑((fnd r x61).new.length):Int)=r.plates) then true else decide ((↑((fnd r x61).frm.length):Int)=0))=true)/\True)/\True)/\((!bif bif !within (fnd r x61).minute 0 (r.last - 1) then true else !decide ((↑((fnd r x61).new.length):Int)=r.plates) then true else decide ((↑((fnd r x61).frm.length):Int)=0))=true->(True/\((!bif bif !within (fnd r x61).minute 0 (r.last - 1) then true else !decide ((↑((fnd r x61).new.length):Int)=r.plates) then true else decide ((↑((fnd r x61).frm.length):Int)=0))=true->(!bif bif !within (fnd r x61).minute 0 (r.last - 1) then true else !decide ((↑((fnd r x61).new.length):Int)=r.plates) then true else decide ((↑((fnd r x61).frm.length):Int)=0))=true)/\True/\True)/\(zE (aInts (fnd r x61).new)/\True/\True)/\Triple Try.prog 113 (c71 r x61)/\(fnd r x61).new.length<=1125899906842624/\True /\ ∀ (i91:Env) (i92:List Value),Env.le E0 i91->i92.length=List.length [aInts (fnd r x61).new,AV.fn 0]->(∀ (k:Nat),Rel i91 true (List.getD [aInts (fnd r x61).new,AV.clo 114 []] k AV.any) (i92.getD k undef))->fnokOf Try.prog 0 (fun (n:Int)=>[iv n]) (fun (n:Int)=>bv (badNew n)) (Env.mk i91.1 i91.2 i91.3 fun (k:Nat) (u:Value) => ∃ (i:Nat),[aInts (fnd r x61).new,AV.fn 0][i]? = some (AV.fn k)/\i92[i]? = some u))/\(((bif bif !within (fnd r x61).minute 0 (r.last - 1) then true else !decide ((↑((fnd r x61).new.length):Int)=r.plates) then true else decide ((↑((fnd r x61).frm.length):Int)=0))=true->True)/\((bif bif !within (fnd r x61).minute 0 (r.last - 1) then true else !decide ((↑((fnd r x61).new.length):Int)=r.plates) then true else decide ((↑((fnd r x61).frm.length):Int)=0))=false->(!bif bif !within (fnd r x61).minute 0 (r.last - 1) then true else !decide ((↑((fnd r x61).new.length):Int)=r.plates) then true else decide ((↑((fnd r x61).frm.length):Int)=0))=true))/\True) (st':=ASt.mk [(1,.ptr 0 []),(76,.sl 3 r.found.length fun (i:Nat)=>cFnd (fnd r i)),(77,iv (↑(r.found.length):Int)),(78,iv (x61:Int)),(8,.ptr 20296 []),(107,bv (bif bif bif !within (fnd r x61).minute 0 (r.last - 1) then true else !decide ((↑((fnd r x61).new.length):Int)=r.plates) then true else decide ((↑((fnd r x61).frm.length):Int)=0) then true else List.any (fnd r x61).new badNew))] [(0,.cells 25 (cRun r)),(20296,.cells 32 (cFnd (fnd r x61)))] 20520) ⟨tv,tv,tv,tv,(o28 hp h32 x33 hx33 h34 x61 hx61 h62),⟨⟨rfl,rfl,rfl,tv⟩,(t112 (fnd r x61).minute (0) (r.last - 1)),tv,tv,(fun i63=>tv)⟩,tv,tv,(fun h64=>⟨⟨tv,tv⟩,tv⟩),(fun h65=>⟨⟨(fun h66=>h65),tv⟩,tv⟩),(fun h67=>⟨⟨(fun h68=>h67),tv⟩,tv⟩),(fun h69=>⟨⟨tv,tv⟩,tv⟩),(fun h70=>⟨⟨(fun h71=>h70),tv⟩,tv⟩),(fun h72=>⟨⟨(fun h73=>h72),(fun h74=>h72),tv⟩,tv⟩),⟨(fun h75=>tv),(fun h76=>(o29 hp h32 x33 hx33 h34 x61 hx61 h62 h76))⟩,tv,(fun h77=>⟨⟨tv,tv⟩,tv⟩),(fun h78=>⟨⟨(fun h79=>h78),tv⟩,tv⟩),(fun h80=>⟨⟨(fun h81=>h80),tv⟩,tv⟩),(fun h82=>⟨⟨(fun h83=>h82),tv,tv⟩,tv⟩),⟨(fun h84=>tv),(fun h85=>(o30 hp h32 x33 hx33 h34 x61 hx61 h62 h85))⟩,tv,(fun h86=>⟨⟨tv,tv⟩,tv⟩),(fun h87=>⟨⟨(fun h88=>h87),tv⟩,tv⟩),(fun h89=>⟨⟨tv,(fun h90=>h89),tv,tv⟩,⟨rfl,tv,tv⟩,(t113 _ _),(o31 hp h32 x33 hx33 h34 x61 hx61 h62 h89),tv,(fun i91=>(fun i92=>(fun h93=>(fun h94=>(fun h95=>(o32 E0 hp h32 x33 hx33 h34 x61 hx61 h62 h89 i91 i92 h93 h94 h95))))))⟩),⟨(fun h96=>tv),(fun h97=>(o33 hp h32 x33 hx33 h34 x61 hx61 h62 h97))⟩,tv⟩ ?_
    refine swp_cond (bif bif bif !within (fnd r x61).minute 0 (r.last - 1) then true else !decide ((↑((fnd r x61).new.length):Int)=r.plates) then true else decide ((↑((fnd r x61).frm.length):Int)=0) then true else List.any (fnd r x61).new badNew) (by kernel_rfl) (fun h98 => ?_) (fun h98 => ?_)
    ·refine swp_seq ?_
     refine sQ (kt:=[2]) (kh:=[]) (q:=True/\True) (st':=ASt.mk [(2,iv 60)] [] 20528) ⟨tv,tv⟩ ?_
     refine swp_ret ?_
     exact rQ [] ((True/\True)/\(zN (iv 60) (iv (check r)))/\T3) ⟨⟨tv,tv⟩,⟨(congrArg iv (o34 hp h32 x33 hx33 h34 x61 hx61 h62 h98)),rfl⟩,rfl,rfl,rfl⟩
    ·refine swp_skip (swp_seq ?_)
     refine sQ (kt:=[1,76,77,78,8,109,110,111]) (kh:=[0,20296]) (q:=tn 4) (st':=ASt.mk [(1,.ptr 0 []),(76,.sl 3 r.found.length fun (i:Nat)=>cFnd (fnd r i)),(77,iv (↑(r.found.length):Int)),(78,iv (x61:Int)),(8,.ptr 20296 []),(109,aInts (fnd r x61).frm),(110,iv (↑((fnd r x61).frm.length):Int)),(111,iv 0)] [(0,.cells 25 (cRun r)),(20296,.cells 32 (cFnd (fnd r x61)))] 20552) (tp 4) ?_
     refine swp_block ?_
     refine swp_loopA (z71_1 r x61) (eQ hE [] [(0,.same 0),(20296,.same 20296)] [76,77,78,109,110] [0,20296] (((zP 0)/\(zT (AV.sl 3 r.found.length fun (i:Nat)=>cFnd (fnd r i)))/\(zT (iv (↑(r.found.length):Int)))/\(zT (iv (x61:Int)))/\(zP 20296)/\(zT (aInts (fnd r x61).frm))/\(zT (iv (↑((fnd r x61).frm.length):Int)))/\(zN (iv 0) (iv (↑0:Int)))/\True)/\((zT (OB.cells 25 (cRun r)))/\(zT (OB.cells 32 (cFnd (fnd r x61))))/\True)/\T2) ⟨⟨⟨rfl,rfl⟩,⟨rfl,rfl⟩,⟨rfl,rfl⟩,⟨rfl,rfl⟩,⟨rfl,rfl⟩,⟨rfl,rfl⟩,⟨rfl,rfl⟩,⟨(congrArg iv (o35 hp h32 x33 hx33 h34 x61 hx61 h62 h98)),rfl⟩,tv⟩,⟨⟨rfl,rfl⟩,⟨rfl,rfl⟩,tv⟩,rfl,rfl⟩) (o36 hp h32 x33 hx33 h34 x61 hx61 h62 h98) (fun (x99:Nat) hx99 => ?_)
     refine swp_seq ?_
     refine sQ (kt:=[1,76,77,78,8,109,110,111,112]) (kh:=[0,20296]) (q:=True/\True) (st':=ASt.mk [(1,.ptr 0 []),(76,.sl 3 r.found.length fun (i:Nat)=>cFnd (fnd r i)),(77,iv (↑(r.found.length):Int)),(78,iv (x61:Int)),(8,.ptr 20296 []),(109,aInts (fnd r x61).frm),(110,iv (↑((fnd r x61).frm.length):Int)),(111,iv (x99:Int)),(112,bv (decide ((x99:Int) < (↑((fnd r x61).frm.length):Int))))] [(0,.cells 25 (cRun r)),(20296,.cells 32 (cFnd (fnd r x61)))] 30560) ⟨tv,tv⟩ ?_
     refine swp_seq ?_
     refine swp_cond (decide ((x99:Int) < (↑((fnd r x61).frm.length):Int))) (by kernel_rfl) (fun h100 => ?_) (fun h100 => ?_)
     ·refine swp_skip (swp_seq (swp_block (swp_seq ?_)))
      refine sQ (kt:=[1,76,77,78,8,109,110,111,9,10]) (kh:=[0,20296]) (q:=True/\(0<=(x99:Int)/\(x99:Int) < (↑((fnd r x61).frm.length):Int))/\tn 3) (st':=ASt.mk [(1,.ptr 0 []),(76,.sl 3 r.found.length fun (i:Nat)=>cFnd (fnd r i)),(77,iv (↑(r.found.length):Int)),(78,iv (x61:Int)),(8,.ptr 20296 []),(109,aInts (fnd r x61).frm),(110,iv (↑((fnd r x61).frm.length):Int)),(111,iv (x99:Int)),(9,iv (x99:Int)),(10,iv ((fnd r x61).frm.getD x99 0))] [(0,.cells 25 (cRun r)),(20296,.cells 32 (cFnd (fnd r x61)))] 30600) ⟨tv,⟨(o37 hp h32 x33 hx33 h34 x61 hx61 h62 h98 x99 hx99 h100),(o38 hp h32 x33 hx33 h34 x61 hx61 h62 h98 x99 hx99 h100)⟩,tp 3⟩ ?_
      refine swp_seq ?_
      refine sC (cs:=[(5,CallSpec.eq (s112 ((fnd r x61).frm.getD x99 0) 0 ((↑(r.machines.length):Int) - 1)) [true,true,true])]) (kt:=[1,76,77,78,8,109,110,111,136]) (kh:=[0,20296]) (q:=True/\True/\True/\True/\inI ((↑(r.machines.length):Int) - 1)/\((zE (iv ((fnd r x61).frm.getD x99 0))/\iv 0=iv 0/\zE (iv ((↑(r.machines.length):Int) - 1))/\True)/\Triple Try.prog 112 (s112 ((fnd r x61).frm.getD x99 0) 0 ((↑(r.machines.length):Int) - 1))/\True/\True /\ ∀ (i101:Env),True)/\True/\True/\((!!within ((fnd r x61).frm.getD x99 0) 0 ((↑(r.machines.length):Int) - 1))=true->(True/\True)/\True)/\((!!within ((fnd r x61).frm.getD x99 0) 0 ((↑(r.machines.length):Int) - 1))=true->(((!!within ((fnd r x61).frm.getD x99 0) 0 ((↑(r.machines.length):Int) - 1))=true->(!!within ((fnd r x61).frm.getD x99 0) 0 ((↑(r.machines.length):Int) - 1))=true)/\True/\True)/\True)/\((!!within ((fnd r x61).frm.getD x99 0) 0 ((↑(r.machines.length):Int) - 1))=true->(((!!within ((fnd r x61).frm.getD x99 0) 0 ((↑(r.machines.length):Int) - 1))=true->(!!within ((fnd r x61).frm.getD x99 0) 0 ((↑(r.machines.length):Int) - 1))=true)/\True)/\True)/\((!!within ((fnd r x61).frm.getD x99 0) 0 ((↑(r.machines.length):Int) - 1) && decide (0 < (x99:Int)))=true->(True/\True)/\True)/\((!!within ((fnd r x61).frm.getD x99 0) 0 ((↑(r.machines.length):Int) - 1) && decide (0 < (x99:Int)))=true->(True/\True)/\True)/\((!!within ((fnd r x61).frm.getD x99 0) 0 ((↑(r.machines.length):Int) - 1) && decide (0 < (x99:Int)))=true->(((!!within ((fnd r x61).frm.getD x99 0) 0 ((↑(r.machines.length):Int) - 1) && decide (0 < (x99:Int)))=true->(!!within ((fnd r x61).frm.getD x99 0) 0 ((↑(r.machines.length):Int) - 1) && decide (0 < (x99:Int)))=true)/\True)/\True)/\((!!within ((fnd r x61).frm.getD x99 0) 0 ((↑(r.machines.length):Int) - 1) && decide (0 < (x99:Int)))=true->(True/\True)/\True)/\((!!within ((fnd r x61).frm.getD x99 0) 0 ((↑(r.machines.length):Int) - 1) && decide (0 < (x99:Int)))=true->(((!!within ((fnd r x61).frm.getD x99 0) 0 ((↑(r.machines.length):Int) - 1) && decide (0 < (x99:Int)))=true->(!!within ((fnd r x61).frm.getD x99 0) 0 ((↑(r.machines.length):Int) - 1) && decide (0 < (x99:Int)))=true)/\True/\True)/\inI ((x99:Int) - 1))/\((!!within ((fnd r x61).frm.getD x99 0) 0 ((↑(r.machines.length):Int) - 1) && decide (0 < (x99:Int)))=true->(((!!within ((fnd r x61).frm.getD x99 0) 0 ((↑(r.machines.length):Int) - 1) && decide (0 < (x99:Int)))=true->(!!within ((fnd r x61).frm.getD x99 0) 0 ((↑(r.machines.length):Int) - 1) && decide (0 < (x99:Int)))=true)/\((!!within ((fnd r x61).frm.getD x99 0) 0 ((↑(r.machines.length):Int) - 1) && decide (0 < (x99:Int)))=true->(!!within ((fnd r x61).frm.getD x99 0) 0 ((↑(r.machines.length):Int) - 1) && decide (0 < (x99:Int)))=true)/\True)/\0<=(x99:Int) - 1/\(x99:Int) - 1 < (↑((fnd r x61).frm.length):Int))/\((!!within ((fnd r x61).frm.getD x99 0) 0 ((↑(r.machines.length):Int) - 1) && decide (0 < (x99:Int)))=true->(((!!within ((fnd r x61).frm.getD x99 0) 0 ((↑(r.machines.length):Int) - 1) && decide (0 < (x99:Int)))=true->(!!within ((fnd r x61).frm.getD x99 0) 0 ((↑(r.machines.length):Int) - 1) && decide (0 < (x99:Int)))=true)/\True)/\True)/\((!!within ((fnd r x61).frm.getD x99 0) 0 ((↑(r.machines.length):Int) - 1) && decide (0 < (x99:Int)))=true->(((!!within ((fnd r x61).frm.getD x99 0) 0 ((↑(r.machines.length):Int) - 1) && decide (0 < (x99:Int)))=true->(!!within ((fnd r x61).frm.getD x99 0) 0 ((↑(r.machines.length):Int) - 1) && decide (0 < (x99:Int)))=true)/\((!!within ((fnd r x61).frm.getD x99 0) 0 ((↑(r.machines.length):Int) - 1) && decide (0 < (x99:Int)))=true->(!!within ((fnd r x61).frm.getD x99 0) 0 ((↑(r.machines.length):Int) - 1) && decide (0 < (x99:Int)))=true)/\True)/\True)/\((!!within ((fnd r x61).frm.getD x99 0) 0 ((↑(r.machines.length):Int) - 1))=true->(((!!within ((fnd r x61).frm.getD x99 0) 0 ((↑(r.machines.length):Int) - 1))=true->(!!within ((fnd r x61).frm.getD x99 0) 0 ((↑(r.machines.length):Int) - 1))=true)/\True)/\(decide (0 < (x99:Int))=true->(!!within ((fnd r x61).frm.getD x99 0) 0 ((↑(r.machines.length):Int) - 1) && decide (0 < (x99:Int)))=true)/\(decide (0 < (x99:Int))=false->True))/\(((!within ((fnd r x61).frm.getD x99 0) 0 ((↑(r.machines.length):Int) - 1))=true->True)/\((!within ((fnd r x61).frm.getD x99 0) 0 ((↑(r.machines.length):Int) - 1))=false->(!!within ((fnd r x61).frm.getD x99 0) 0 ((↑(r.machines.length):Int) - 1))=true))/\True) (st':=ASt.mk [(1,.ptr 0 []),(76,.sl 3 r.found.length fun (i:Nat)=>cFnd (fnd r i)),(77,iv (↑(r.found.length):Int)),(78,iv (x61:Int)),(8,.ptr 20296 []),(109,aInts (fnd r x61).frm),(110,iv (↑((fnd r x61).frm.length):Int)),(111,iv (x99:Int)),(136,bv (bif !within ((fnd r x61).frm.getD x99 0) 0 ((↑(r.machines.length):Int) - 1) then true else bif decide (0 < (x99:Int)) then decide ((fnd r x61).frm.getD x99 0<=(fnd r x61).frm.getD ((x99:Int) - 1).toNat 0) else false))] [(0,.cells 25 (cRun r)),(20296,.cells 32 (cFnd (fnd r x61)))] 30768) ⟨tv,tv,tv,tv,(o39 hp h32 x33 hx33 h34 x61 hx61 h62 h98 x99 hx99 h100),⟨⟨rfl,rfl,rfl,tv⟩,(t112 ((fnd r x61).frm.getD x99 0) (0) ((↑(r.machines.length):Int) - 1)),tv,tv,(fun i101=>tv)⟩,tv,tv,(fun h102=>⟨⟨tv,tv⟩,tv⟩),(fun h103=>⟨⟨(fun h104=>h103),tv,tv⟩,tv⟩),(fun h105=>⟨⟨(fun h106=>h105),tv⟩,tv⟩),(fun h107=>⟨⟨tv,tv⟩,tv⟩),(fun h108=>⟨⟨tv,tv⟩,tv⟩),(fun h109=>⟨⟨(fun h110=>h109),tv⟩,tv⟩),(fun h111=>⟨⟨tv,tv⟩,tv⟩),(fun h112=>⟨⟨(fun h113=>h112),tv,tv⟩,(o40 hp h32 x33 hx33 h34 x61 hx61 h62 h98 x99 hx99 h100 h112)⟩),(fun h114=>⟨⟨(fun h115=>h114),(fun h116=>h114),tv⟩,(o41 hp h32 x33 hx33 h34 x61 hx61 h62 h98 x99 hx99 h100 h114),(o42 hp h32 x33 hx33 h34 x61 hx61 h62 h98 x99 hx99 h100 h114)⟩),(fun h117=>⟨⟨(fun h118=>h117),tv⟩,tv⟩),(fun h119=>⟨⟨(fun h120=>h119),(fun h121=>h119),tv⟩,tv⟩),(fun h122=>⟨⟨(fun h123=>h122),tv⟩,(fun h124=>(o43 hp h32 x33 hx33 h34 x61 hx61 h62 h98 x99 hx99 h100 h122 h124)),(fun h125=>tv)⟩),⟨(fun h126=>tv),(fun h127=>(o44 hp h32 x33 hx33 h34 x61 hx61 h62 h98 x99 hx99 h100 h127))⟩,tv⟩ ?_
      refine swp_cond (bif !within ((fnd r x61).frm.getD x99 0) 0 ((↑(r.machines.length):Int) - 1) then true else bif decide (0 < (x99:Int)) then decide ((fnd r x61).frm.getD x99 0<=(fnd r x61).frm.getD ((x99:Int) - 1).toNat 0) else false) (by kernel_rfl) (fun h128 => ?_) (fun h128 => ?_)
      ·refine swp_seq ?_
       refine sQ (kt:=[2]) (kh:=[]) (q:=True/\True) (st':=ASt.mk [(2,iv 60)] [] 30776) ⟨tv,tv⟩ ?_
       refine swp_ret ?_
       exact rQ [] ((True/\True)/\(zN (iv 60) (iv (check r)))/\T3) ⟨⟨tv,tv⟩,⟨(congrArg iv (o45 hp h32 x33 hx33 h34 x61 hx61 h62 h98 x99 hx99 h100 h128)),rfl⟩,rfl,rfl,rfl⟩
      ·refine swp_skip ?_
       refine sQ (kt:=[1,76,77,78,8,109,110,111]) (kh:=[0,20296]) (q:=inI ((x99:Int) + 1)/\True/\True) (st':=ASt.mk [(1,.ptr 0 []),(76,.sl 3 r.found.length fun (i:Nat)=>cFnd (fnd r i)),(77,iv (↑(r.found.length):Int)),(78,iv (x61:Int)),(8,.ptr 20296 []),(109,aInts (fnd r x61).frm),(110,iv (↑((fnd r x61).frm.length):Int)),(111,iv ((x99:Int) + 1))] [(0,.cells 25 (cRun r)),(20296,.cells 32 (cFnd (fnd r x61)))] 30784) ⟨(o46 hp h32 x33 hx33 h34 x61 hx61 h62 h98 x99 hx99 h100 h128),tv,tv⟩ ?_
       exact loop_next (z71_1 r x61) x99 (eQ hE [] [(0,.same 0),(20296,.same 20296)] [76,77,78,109,110] [0,20296] (((zP 0)/\(zT (AV.sl 3 r.found.length fun (i:Nat)=>cFnd (fnd r i)))/\(zT (iv (↑(r.found.length):Int)))/\(zT (iv (x61:Int)))/\(zP 20296)/\(zT (aInts (fnd r x61).frm))/\(zT (iv (↑((fnd r x61).frm.length):Int)))/\(zN (iv ((x99:Int) + 1)) (iv (↑(x99 + 1):Int)))/\True)/\((zT (OB.cells 25 (cRun r)))/\(zT (OB.cells 32 (cFnd (fnd r x61))))/\True)/\T2) ⟨⟨⟨rfl,rfl⟩,⟨rfl,rfl⟩,⟨rfl,rfl⟩,⟨rfl,rfl⟩,⟨rfl,rfl⟩,⟨rfl,rfl⟩,⟨rfl,rfl⟩,⟨(congrArg iv (o47 hp h32 x33 hx33 h34 x61 hx61 h62 h98 x99 hx99 h100 h128)),rfl⟩,tv⟩,⟨⟨rfl,rfl⟩,⟨rfl,rfl⟩,tv⟩,rfl,rfl⟩) (o48 hp h32 x33 hx33 h34 x61 hx61 h62 h98 x99 hx99 h100 h128) (o49 hp h32 x33 hx33 h34 x61 hx61 h62 h98 x99 hx99 h100 h128)
     ·refine swp_exit ?_
      refine sQ (kt:=[1,76,77,78]) (kh:=[0]) (q:=inI ((x61:Int) + 1)/\True/\True) (st':=ASt.mk [(1,.ptr 0 []),(76,.sl 3 r.found.length fun (i:Nat)=>cFnd (fnd r i)),(77,iv (↑(r.found.length):Int)),(78,iv ((x61:Int) + 1))] [(0,.cells 25 (cRun r))] 30576) ⟨(o50 hp h32 x33 hx33 h34 x61 hx61 h62 h98 x99 hx99 h100),tv,tv⟩ ?_
      exact loop_next (z71_4 r) x61 (eQ hE [] [(0,.same 0)] [76,77] [0] (((zP 0)/\(zT (AV.sl 3 r.found.length fun (i:Nat)=>cFnd (fnd r i)))/\(zT (iv (↑(r.found.length):Int)))/\(zN (iv ((x61:Int) + 1)) (iv (↑(x61 + 1):Int)))/\True)/\((zT (OB.cells 25 (cRun r)))/\True)/\T2) ⟨⟨⟨rfl,rfl⟩,⟨rfl,rfl⟩,⟨rfl,rfl⟩,⟨(congrArg iv (o51 hp h32 x33 hx33 h34 x61 hx61 h62 h98 x99 hx99 h100)),rfl⟩,tv⟩,⟨⟨rfl,rfl⟩,tv⟩,rfl,rfl⟩) (o52 hp h32 x33 hx33 h34 x61 hx61 h62 h98 x99 hx99 h100) (o53 hp h32 x33 hx33 h34 x61 hx61 h62 h98 x99 hx99 h100)
   ·refine swp_exit (swp_seq ?_)
    refine sQ (kt:=[2]) (kh:=[]) (q:=True/\True) (st':=ASt.mk [(2,iv 0)] [] 20288) ⟨tv,tv⟩ ?_
    refine swp_ret ?_
    exact rQ [] ((True/\True)/\(zN (iv 0) (iv (check r)))/\T3) ⟨⟨tv,tv⟩,⟨(congrArg iv (o54 hp h32 x33 hx33 h34 x61 hx61 h62)),rfl⟩,rfl,rfl,rfl⟩
theorem t71 (r:Run):Triple Try.prog 71 (s71 r):=by
 apply w71
 case o3=>intro _ h; rw [nbor4'] at h; exact (check_head (by rw [Bool.not_eq_true'] at h; exact h)).symm
 case o9 =>
  intro _ _ x hx hl h
  rw [nbor2] at h
  refine (check_mach (by simpa using hl) ?_).symm
  have h':okMach r (mach r x)=false:=by rw [Bool.not_eq_true'] at h; exact h
  simp [okMachA,h']
 case o15 =>
  intro _ h0 x hx hl _ y hy hyl h
  rw [nbor4'] at h0
  have hh:okHead r=true:=by rw [Bool.not_eq_false'] at h0; exact h0
  refine (check_mach (by simpa using hl) ?_).symm
  rw [spanB _ _ (head_last hh)] at h
  have h':(mach r x).changes.all (fun s=>isSpan s r.last)=false:=not_all _ default _ (by simpa using hyl) (by simpa using h)
  simp [okMachA,h']
 case o16=>intro hf _ x hx hl _ y hy hyl _; have:=hf.2.2.1 x; simp only [decide_eq_true_eq] at hyl; simp only [inI]; omega
 case o18 =>
  intro _ h0 x hx hl _ y hy hyl h
  rw [nbor4'] at h0
  have hh:okHead r=true:=by rw [Bool.not_eq_false'] at h0; exact h0
  rw [spanB _ _ (head_last hh)] at h
  exact ⟨by simp only [decide_eq_true_eq] at hyl; omega,lt_succ_cases hy.2 (by simpa [chg] using h)⟩
 case o22 =>
  intro _ _ x hx hl h y hy hyl
  refine ⟨by simp only [decide_eq_true_eq] at hl; omega,lt_succ_cases hx.2 ?_⟩
  rw [nbor2] at h
  have h1:okMach r (mach r x)=true:=by simpa [okMach] using h
  simp only [decide_eq_false_iff_not] at hyl
  have h2:(mach r x).changes.all (fun s=>isSpan s r.last)=true:=all_idx _ default _ (fun j hj=>hy.2 j (by omega))
  simp [okMachA,h1,h2]
 case o28 =>
  intro _ h
  rw [nbor4'] at h
  have hh:okHead r=true:=by rw [Bool.not_eq_false'] at h; exact h
  (repeat intro _)
  simp only [okHead,Bool.and_eq_true,within_iff] at hh
  simp only [inI]; omega
 case o32 =>
  intro E0 _ _ _ _ _ x hx hl _ E us le hlen hr
  refine fnok_arg (vals:=[aInts (fnd r x).new,.clo 114 []]) 1 (fun j' h => ?_) (fun E u hu i=>fnok_clo (caps:=[]) (s114 i) (t114 i) rfl trivial (fun _=>trivial) rfl rfl rfl rfl rfl hu) E us le hlen hr
  match j',h with
  | 0,h=>cases h
  | 1,_=>rfl
  | n + 2,h=>simp at h
 case o34 =>
  intro _ _ _ _ _ x hx hl h
  refine (check_fnd (by simpa using hl) ?_).symm
  rw [bor] at h
  rw [Bool.or_eq_true] at h
  rcases h with h | h
  ·rw [nbor3'] at h
   have h':okFnd r (fnd r x)=false:=by
    rw [Bool.not_eq_true'] at h
    unfold okFnd
    rw [h]; rfl
   simp [okFndA,h']
  ·have h':(fnd r x).new.all (fun n=>within n (-1) 1)=false:=by
    rw [List.any_eq_true] at h
    obtain ⟨n,hn,h⟩:=h
    rw [List.all_eq_false]
    exact ⟨n,hn,by simpa [badNew] using h⟩
   simp [okFndA,h']
 case o45 =>
  intro _ _ _ _ _ x hx hl _ y hy hyl h
  refine (check_fnd (by simpa using hl) ?_).symm
  rw [risB] at h
  have h':rising (fnd r x).frm 0 ((r.machines.length:Int) - 1)=false:=ris_not (by simpa using hyl) (by simpa using h)
  have h2:okFnd r (fnd r x)=false:=by unfold okFnd; rw [h']; simp
  simp [okFndA,h2]
 case o46=>intro hf _ _ _ _ x hx hl _ y hy hyl _; have:=(hf.2.2.2 x).2; simp only [decide_eq_true_eq] at hyl; simp only [inI]; omega
 case o40=>intro hf _ _ _ _ x hx hl _ y hy hyl _; have:=(hf.2.2.2 x).2; simp only [decide_eq_true_eq] at hyl; simp only [inI]; omega
 case o48=>intro _ _ _ _ _ x hx hl _ y hy hyl h; rw [risB] at h; exact ⟨by simp only [decide_eq_true_eq] at hyl; omega,lt_succ_cases hy.2 (by simpa using h)⟩
 case o52 =>
  intro _ _ _ _ _ x hx hl h y hy hyl
  refine ⟨by simp only [decide_eq_true_eq] at hl; omega,lt_succ_cases hx.2 ?_⟩
  simp only [decide_eq_false_iff_not] at hyl
  rw [bor] at h
  obtain ⟨h1,h2⟩:=(Bool.or_eq_false_iff).1 h
  rw [nbor3',Bool.not_eq_false'] at h1
  have hr:rising (fnd r x).frm 0 ((r.machines.length:Int) - 1)=true:=by
   unfold rising; rw [List.all_eq_true]; intro j hj; exact hy.2 j (by have:=List.mem_range.1 hj; omega)
  have h3:okFnd r (fnd r x)=true:=by unfold okFnd; rw [h1,hr]; rfl
  have h4:(fnd r x).new.all (fun n=>within n (-1) 1)=true:=by
   rw [List.any_eq_false] at h2
   rw [List.all_eq_true]
   intro n hn
   simpa [badNew] using h2 n hn
  simp [okFndA,h3,h4]
 case o54 =>
  intro _ h x hx hl y hy hyl
  rw [nbor4'] at h
  simp only [decide_eq_false_iff_not] at hl hyl
  have:=okRun_of (r:=r) (by rw [Bool.not_eq_false'] at h; exact h) (fun j hj=>hx.2 j (by omega)) (fun j hj=>hy.2 j (by omega))
  exact (check_zero.2 this).symm
 all_goals (try ((repeat intro _) <;> (try simp only [v0,v1,v2,v3,v4,v5,v6,v7,v8,v9,inI,fits,Go.Sh.small] at *) <;> first | (exact rfl) | omega | exact vz | (simp_all; done) | (simp_all; omega)))
end Go.Ab
namespace Go.Sh
structure WayS where
 frm:List Int
 whn:Nat->Nat->Span
def upd2 (f:Nat->Nat->Span) (m p:Nat) (s:Span):Nat->Nat->Span:=fun j q=>if j=m then (if q=p then s else f j q) else f j q
def seeOne (c:Fnd) (p:Nat) (s:Span):Span:=if c.new.getD p 0=0 then ⟨max s.lo (c.minute + 1),s.hi⟩ else if c.new.getD p 0=1 then ⟨s.lo,min s.hi c.minute⟩ else s
def seeN (c:Fnd) (m:Nat):Nat->Nat->(Nat->Nat->Span)->Bool × (Nat->Nat->Span)
 | 0,_,f=>(true,f)
 | k + 1,p,f=>if (seeOne c p (f m p)).lo > (seeOne c p (f m p)).hi then (false,upd2 f m p (seeOne c p (f m p))) else seeN c m k (p + 1) (upd2 f m p (seeOne c p (f m p)))
def see (c:Fnd) (m:Nat) (f:Nat->Nat->Span):Bool × (Nat->Nat->Span):=seeN c m c.new.length 0 f
theorem seeN_stop {c:Fnd} {m k p:Nat} {f:Nat->Nat->Span} (h:(seeOne c p (f m p)).lo > (seeOne c p (f m p)).hi):seeN c m (k + 1) p f=(false,upd2 f m p (seeOne c p (f m p))):=by rw [seeN,if_pos h]
theorem seeN_go {c:Fnd} {m k p:Nat} {f:Nat->Nat->Span} (h:¬ (seeOne c p (f m p)).lo > (seeOne c p (f m p)).hi):seeN c m (k + 1) p f=seeN c m k (p + 1) (upd2 f m p (seeOne c p (f m p))):=by rw [seeN,if_neg h]
theorem upd2_at (f:Nat->Nat->Span) (m p:Nat) (s:Span):upd2 f m p s m p=s:=by simp [upd2]
theorem see_stop {c:Fnd} {m x:Nat} {f g:Nat->Nat->Span} (hx:see c m f=seeN c m (c.new.length - x) x g) (hl:x < c.new.length) (h:(upd2 g m x (seeOne c x (g m x)) m x).hi < (upd2 g m x (seeOne c x (g m x)) m x).lo):see c m f=(false,upd2 g m x (seeOne c x (g m x))):=by
 rw [upd2_at] at h
 rw [hx,show c.new.length - x=(c.new.length - (x + 1)) + 1 by omega,seeN_stop h]
theorem see_go {c:Fnd} {m x:Nat} {f g:Nat->Nat->Span} (hx:see c m f=seeN c m (c.new.length - x) x g) (hl:x < c.new.length) (h:¬ (upd2 g m x (seeOne c x (g m x)) m x).hi < (upd2 g m x (seeOne c x (g m x)) m x).lo):see c m f=seeN c m (c.new.length - (x + 1)) (x + 1) (upd2 g m x (seeOne c x (g m x))):=by
 rw [upd2_at] at h
 rw [hx,show c.new.length - x=(c.new.length - (x + 1)) + 1 by omega,seeN_go h]
theorem see_end {c:Fnd} {m x:Nat} {f g:Nat->Nat->Span} (hx:see c m f=seeN c m (c.new.length - x) x g) (hl:c.new.length<=x):see c m f=(true,g):=by
 rw [hx,show c.new.length - x=0 by omega,seeN]
theorem upd2_id (f:Nat->Nat->Span) (m p:Nat):upd2 f m p (f m p)=f:=by
 funext j q
 unfold upd2
 split
 ·rename_i e; subst e; split
  ·rename_i e; subst e; rfl
  ·rfl
 ·rfl
end Go.Sh
namespace Go.En
open Go Go.Ab Go.Sh
def cWay (w:WayS):List AV:=[aInts w.frm,.arr 6 3 (fun m=>[.arr 2 3 (fun p=>cSpan (w.whn m p))])]
end Go.En
namespace Go.Ab
open Go Go.RowKit Go.Proofs Go.Sh Go.En
def s139 (b:Nat) (frm:List Int) (f:Nat->Nat->Span) (c:Fnd) (m:Nat):CallSpec:=ptrSpec b [.fld 1] [vFnd c,iv m] 107 (cWay ⟨frm,f⟩) (cWay ⟨frm,(see c m f).2⟩) (m < 3/\c.new.length<=3/\0<=c.minute/\c.minute<=1000) (bv (see c m f).1)
def h139 (b:Nat) (frm:List Int) (f:Nat->Nat->Span) (c:Fnd) (m:Nat):Hint:={ X:=Nat × (Nat->Nat->Span),M:=fun x=>[(13,iv x.1)],H:=fun x=>[(0,.cells 107 (cWay ⟨frm,x.2⟩))],I:=fun x=>x.1<=c.new.length/\see c m f=seeN c m (c.new.length - x.1) x.1 x.2,mu:=fun x=>c.new.length - x.1,x0:=(0,f),nx:=fun x=>(x.1 + 1,upd2 x.2 m x.1 (seeOne c x.1 (x.2 m x.1))) }
end Go.Ab
namespace Go.Ab
open Go Go.RowKit Go.Proofs Go.Sh Go.En
abbrev z139_1 (b:Nat) (frm:List Int) (f:Nat->Nat->Span) (c:Fnd) (m:Nat):LoopAnn:=Hint.ann (h139 b frm f c m) [(0,AV.ptr 0 [PS.fld 1]),(2,iv (m:Int)),(4,AV.ptr 1 []),(11,aInts c.new),(12,iv (↑(c.new.length):Int))] [(1,OB.cells 32 (cFnd c))] 10049
abbrev q139_1 (b:Nat) (frm:List Int) (f:Nat->Nat->Span) (c:Fnd) (m:Nat) (C:Prop):Prop:=m < 3/\c.new.length<=3/\0<=c.minute/\c.minute<=1000->C
abbrev q139_2 (b:Nat) (frm:List Int) (f:Nat->Nat->Span) (c:Fnd) (m:Nat) (C:(Nat × (Nat->Nat->Span))->Prop):Prop:=q139_1 b frm f c m (∀ (x0:Nat × (Nat->Nat->Span)),x0.1<=c.new.length/\see c m f=seeN c m (c.new.length - x0.1) x0.1 x0.2->C x0)
abbrev q139_3 (b:Nat) (frm:List Int) (f:Nat->Nat->Span) (c:Fnd) (m:Nat) (C:(Nat × (Nat->Nat->Span))->Prop):Prop:=q139_2 b frm f c m fun x0=>decide ((↑(x0.1):Int) < (↑(c.new.length):Int))=true->C x0
abbrev q139_4 (b:Nat) (frm:List Int) (f:Nat->Nat->Span) (c:Fnd) (m:Nat) (C:(Nat × (Nat->Nat->Span))->Prop):Prop:=q139_3 b frm f c m fun x0=>decide (c.new.getD x0.1 0=0)=true->C x0
abbrev q139_5 (b:Nat) (frm:List Int) (f:Nat->Nat->Span) (c:Fnd) (m:Nat) (C:(Nat × (Nat->Nat->Span))->Prop):Prop:=q139_4 b frm f c m fun x0=>decide (((WayS.mk frm (upd2 x0.2 m x0.1 (seeOne c x0.1 (x0.2 m x0.1)))).whn m x0.1).hi < ((WayS.mk frm (upd2 x0.2 m x0.1 (seeOne c x0.1 (x0.2 m x0.1)))).whn m x0.1).lo)=true->C x0
abbrev q139_6 (b:Nat) (frm:List Int) (f:Nat->Nat->Span) (c:Fnd) (m:Nat) (C:(Nat × (Nat->Nat->Span))->Prop):Prop:=q139_4 b frm f c m fun x0=>decide (((WayS.mk frm (upd2 x0.2 m x0.1 (seeOne c x0.1 (x0.2 m x0.1)))).whn m x0.1).hi < ((WayS.mk frm (upd2 x0.2 m x0.1 (seeOne c x0.1 (x0.2 m x0.1)))).whn m x0.1).lo)=false->C x0
abbrev q139_7 (b:Nat) (frm:List Int) (f:Nat->Nat->Span) (c:Fnd) (m:Nat) (C:(Nat × (Nat->Nat->Span))->Prop):Prop:=q139_3 b frm f c m fun x0=>decide (c.new.getD x0.1 0=0)=false->decide (c.new.getD x0.1 0=1)=true->C x0
abbrev q139_8 (b:Nat) (frm:List Int) (f:Nat->Nat->Span) (c:Fnd) (m:Nat) (C:(Nat × (Nat->Nat->Span))->Prop):Prop:=q139_7 b frm f c m fun x0=>decide (((WayS.mk frm (upd2 x0.2 m x0.1 (seeOne c x0.1 (x0.2 m x0.1)))).whn m x0.1).hi < ((WayS.mk frm (upd2 x0.2 m x0.1 (seeOne c x0.1 (x0.2 m x0.1)))).whn m x0.1).lo)=true->C x0
abbrev q139_9 (b:Nat) (frm:List Int) (f:Nat->Nat->Span) (c:Fnd) (m:Nat) (C:(Nat × (Nat->Nat->Span))->Prop):Prop:=q139_7 b frm f c m fun x0=>decide (((WayS.mk frm (upd2 x0.2 m x0.1 (seeOne c x0.1 (x0.2 m x0.1)))).whn m x0.1).hi < ((WayS.mk frm (upd2 x0.2 m x0.1 (seeOne c x0.1 (x0.2 m x0.1)))).whn m x0.1).lo)=false->C x0
abbrev q139_10 (b:Nat) (frm:List Int) (f:Nat->Nat->Span) (c:Fnd) (m:Nat) (C:(Nat × (Nat->Nat->Span))->Prop):Prop:=q139_3 b frm f c m fun x0=>decide (c.new.getD x0.1 0=0)=false->decide (c.new.getD x0.1 0=1)=false->C x0
abbrev q139_11 (b:Nat) (frm:List Int) (f:Nat->Nat->Span) (c:Fnd) (m:Nat) (C:(Nat × (Nat->Nat->Span))->Prop):Prop:=q139_10 b frm f c m fun x0=>decide (((WayS.mk frm (upd2 x0.2 m x0.1 (seeOne c x0.1 (x0.2 m x0.1)))).whn m x0.1).hi < ((WayS.mk frm (upd2 x0.2 m x0.1 (seeOne c x0.1 (x0.2 m x0.1)))).whn m x0.1).lo)=true->C x0
abbrev q139_12 (b:Nat) (frm:List Int) (f:Nat->Nat->Span) (c:Fnd) (m:Nat) (C:(Nat × (Nat->Nat->Span))->Prop):Prop:=q139_10 b frm f c m fun x0=>decide (((WayS.mk frm (upd2 x0.2 m x0.1 (seeOne c x0.1 (x0.2 m x0.1)))).whn m x0.1).hi < ((WayS.mk frm (upd2 x0.2 m x0.1 (seeOne c x0.1 (x0.2 m x0.1)))).whn m x0.1).lo)=false->C x0
theorem w139 (b:Nat) (frm:List Int) (f:Nat->Nat->Span) (c:Fnd) (m:Nat)
 (o0:q139_1 b frm f c m (0=(↑0:Int)))
 (o1:q139_1 b frm f c m ((0,f).1<=c.new.length/\see c m f=seeN c m (c.new.length - (0,f).1) (0,f).1 (0,f).2))
 (o2:q139_3 b frm f c m fun x0=>0<=(↑(x0.1):Int))
 (o3:q139_3 b frm f c m fun x0=>(↑(x0.1):Int) < (↑(c.new.length):Int))
 (o4:q139_3 b frm f c m fun x0=>0<=(m:Int))
 (o5:q139_3 b frm f c m fun x0=>(m:Int) < (↑3:Int))
 (o6:q139_3 b frm f c m fun x0=>0<=(↑(x0.1):Int))
 (o7:q139_3 b frm f c m fun x0=>(↑(x0.1):Int) < (↑3:Int))
 (o8:q139_4 b frm f c m fun x0=>x0.1 < 3)
 (o9:q139_4 b frm f c m fun x0=>inI (c.minute + 1))
 (o10:q139_4 b frm f c m fun x0=>x0.1 < 3)
 (o11:q139_4 b frm f c m fun x0 => ∀ (i5:Nat),i5 < 3->Decidable.rec (fun (h:¬i5=m)=>[AV.arr 2 3 fun (p:Nat)=>cSpan ((WayS.mk frm x0.2).whn i5 p)]) (fun (h:i5=m)=>[AV.arr 2 3 fun (j:Nat)=>if j=x0.1 then [] ++ ([iv (max ((WayS.mk frm x0.2).whn m x0.1).lo (c.minute + 1))] ++ [iv ((WayS.mk frm x0.2).whn m x0.1).hi]) else cSpan ((WayS.mk frm x0.2).whn m j)]) (instDecidableEqNat i5 m) = [AV.arr 2 3 fun (p:Nat)=>cSpan ((WayS.mk frm (upd2 x0.2 m x0.1 (seeOne c x0.1 (x0.2 m x0.1)))).whn i5 p)])
 (o12:q139_4 b frm f c m fun x0=>x0.1 < 3)
 (o13:q139_4 b frm f c m fun x0=>x0.1 < 3)
 (o14:q139_5 b frm f c m fun x0=>false=(see c m f).1)
 (o15:q139_5 b frm f c m fun x0=>cWay (WayS.mk frm (upd2 x0.2 m x0.1 (seeOne c x0.1 (x0.2 m x0.1))))=cWay (WayS.mk frm (see c m f).2))
 (o16:q139_6 b frm f c m fun x0=>inI ((↑(x0.1):Int) + 1))
 (o17:q139_6 b frm f c m fun x0=>(↑(x0.1):Int) + 1=(↑(x0.1 + 1):Int))
 (o18:q139_6 b frm f c m fun x0=>(x0.1 + 1,upd2 x0.2 m x0.1 (seeOne c x0.1 (x0.2 m x0.1))).1<=c.new.length/\see c m f=seeN c m (c.new.length - (x0.1 + 1,upd2 x0.2 m x0.1 (seeOne c x0.1 (x0.2 m x0.1))).1) (x0.1 + 1,upd2 x0.2 m x0.1 (seeOne c x0.1 (x0.2 m x0.1))).1 (x0.1 + 1,upd2 x0.2 m x0.1 (seeOne c x0.1 (x0.2 m x0.1))).2)
 (o19:q139_6 b frm f c m fun x0=>c.new.length - (x0.1 + 1,upd2 x0.2 m x0.1 (seeOne c x0.1 (x0.2 m x0.1))).1 < c.new.length - x0.1)
 (o20:q139_7 b frm f c m fun x0=>x0.1 < 3)
 (o21:q139_7 b frm f c m fun x0=>x0.1 < 3)
 (o22:q139_7 b frm f c m fun x0 => ∀ (i11:Nat),i11 < 3->Decidable.rec (fun (h:¬i11=m)=>[AV.arr 2 3 fun (p:Nat)=>cSpan ((WayS.mk frm x0.2).whn i11 p)]) (fun (h:i11=m)=>[AV.arr 2 3 fun (j:Nat)=>if j=x0.1 then [iv ((WayS.mk frm x0.2).whn m x0.1).lo] ++ ([iv (min ((WayS.mk frm x0.2).whn m x0.1).hi c.minute)] ++ []) else cSpan ((WayS.mk frm x0.2).whn m j)]) (instDecidableEqNat i11 m) = [AV.arr 2 3 fun (p:Nat)=>cSpan ((WayS.mk frm (upd2 x0.2 m x0.1 (seeOne c x0.1 (x0.2 m x0.1)))).whn i11 p)])
 (o23:q139_7 b frm f c m fun x0=>x0.1 < 3)
 (o24:q139_7 b frm f c m fun x0=>x0.1 < 3)
 (o25:q139_8 b frm f c m fun x0=>false=(see c m f).1)
 (o26:q139_8 b frm f c m fun x0=>cWay (WayS.mk frm (upd2 x0.2 m x0.1 (seeOne c x0.1 (x0.2 m x0.1))))=cWay (WayS.mk frm (see c m f).2))
 (o27:q139_9 b frm f c m fun x0=>inI ((↑(x0.1):Int) + 1))
 (o28:q139_9 b frm f c m fun x0=>(↑(x0.1):Int) + 1=(↑(x0.1 + 1):Int))
 (o29:q139_9 b frm f c m fun x0=>(x0.1 + 1,upd2 x0.2 m x0.1 (seeOne c x0.1 (x0.2 m x0.1))).1<=c.new.length/\see c m f=seeN c m (c.new.length - (x0.1 + 1,upd2 x0.2 m x0.1 (seeOne c x0.1 (x0.2 m x0.1))).1) (x0.1 + 1,upd2 x0.2 m x0.1 (seeOne c x0.1 (x0.2 m x0.1))).1 (x0.1 + 1,upd2 x0.2 m x0.1 (seeOne c x0.1 (x0.2 m x0.1))).2)
 (o30:q139_9 b frm f c m fun x0=>c.new.length - (x0.1 + 1,upd2 x0.2 m x0.1 (seeOne c x0.1 (x0.2 m x0.1))).1 < c.new.length - x0.1)
 (o31:q139_10 b frm f c m fun x0 => ∀ (i16:Nat),i16 < 3 -> [AV.arr 2 3 fun (p:Nat)=>cSpan ((WayS.mk frm x0.2).whn i16 p)] = [AV.arr 2 3 fun (p:Nat)=>cSpan ((WayS.mk frm (upd2 x0.2 m x0.1 (seeOne c x0.1 (x0.2 m x0.1)))).whn i16 p)])
 (o32:q139_10 b frm f c m fun x0=>x0.1 < 3)
 (o33:q139_10 b frm f c m fun x0=>x0.1 < 3)
 (o34:q139_11 b frm f c m fun x0=>false=(see c m f).1)
 (o35:q139_11 b frm f c m fun x0=>cWay (WayS.mk frm (upd2 x0.2 m x0.1 (seeOne c x0.1 (x0.2 m x0.1))))=cWay (WayS.mk frm (see c m f).2))
 (o36:q139_12 b frm f c m fun x0=>inI ((↑(x0.1):Int) + 1))
 (o37:q139_12 b frm f c m fun x0=>(↑(x0.1):Int) + 1=(↑(x0.1 + 1):Int))
 (o38:q139_12 b frm f c m fun x0=>(x0.1 + 1,upd2 x0.2 m x0.1 (seeOne c x0.1 (x0.2 m x0.1))).1<=c.new.length/\see c m f=seeN c m (c.new.length - (x0.1 + 1,upd2 x0.2 m x0.1 (seeOne c x0.1 (x0.2 m x0.1))).1) (x0.1 + 1,upd2 x0.2 m x0.1 (seeOne c x0.1 (x0.2 m x0.1))).1 (x0.1 + 1,upd2 x0.2 m x0.1 (seeOne c x0.1 (x0.2 m x0.1))).2)
 (o39:q139_12 b frm f c m fun x0=>c.new.length - (x0.1 + 1,upd2 x0.2 m x0.1 (seeOne c x0.1 (x0.2 m x0.1))).1 < c.new.length - x0.1)
 (o40:q139_2 b frm f c m fun x0=>decide ((↑(x0.1):Int) < (↑(c.new.length):Int))=false->true=(see c m f).1)
 (o41:q139_2 b frm f c m fun x0=>decide ((↑(x0.1):Int) < (↑(c.new.length):Int))=false->cWay (WayS.mk frm x0.2)=cWay (WayS.mk frm (see c m f).2)) :
  Triple Try.prog 139 (s139 b frm f c m):=by
 refine triple_ptr Try.func139 rfl Try.call139 T0_ok (b) ([PS.fld 1]) ([vFnd c,iv (m:Int)]) (107) (cWay (WayS.mk frm f)) (cWay (WayS.mk frm (see c m f).2)) (m < 3/\c.new.length<=3/\0<=c.minute/\c.minute<=1000) (bv (see c m f).1) rfl rfl rfl rfl (Nat.le_of_ble_eq_true (by kernel_rfl)) ?_
 intro hp C hC hE
 obtain ⟨P,w0,E0,av,hA⟩:=C
 subst hC
 refine swp_seq ?_
 refine sQ (kt:=[0,2,4]) (kh:=[0,1]) (q:=tn 2) (st':=ASt.mk [(0,.ptr 0 [PS.fld 1]),(2,iv (m:Int)),(4,.ptr 1 [])] [(0,.cells 107 (cWay (WayS.mk frm f))),(1,.cells 32 (cFnd c))] 17) (tp 2) ?_
 refine swp_seq (swp_seq ?_)
 refine sQ (kt:=[0,2,4,11,12,13]) (kh:=[0,1]) (q:=tn 4) (st':=ASt.mk [(0,.ptr 0 [PS.fld 1]),(2,iv (m:Int)),(4,.ptr 1 []),(11,aInts c.new),(12,iv (↑(c.new.length):Int)),(13,iv 0)] [(0,.cells 107 (cWay (WayS.mk frm f))),(1,.cells 32 (cFnd c))] 49) (tp 4) ?_
 refine swp_block ?_
 refine swp_loopA (z139_1 b frm f c m) (ent_p hE [] [(0,.same 0),(1,.same 1)] [2,11,12] [1,0] (((zE (some (Src.same 0))/\zE [PS.fld 1])/\(zT (iv (m:Int)))/\(zP 1)/\(zT (aInts c.new))/\(zT (iv (↑(c.new.length):Int)))/\(zN (iv 0) (iv (↑0:Int)))/\True)/\((zT (OB.cells 32 (cFnd c)))/\(zT (OB.cells 107 (cWay (WayS.mk frm f))))/\True)/\T2) (by kernel_rfl) (by kernel_rfl) ⟨⟨⟨rfl,rfl⟩,⟨rfl,rfl⟩,⟨rfl,rfl⟩,⟨rfl,rfl⟩,⟨rfl,rfl⟩,⟨(congrArg iv (o0 hp)),rfl⟩,tv⟩,⟨⟨rfl,rfl⟩,⟨rfl,rfl⟩,tv⟩,rfl,rfl⟩) (o1 hp) (fun (x0:Nat × (Nat->Nat->Span)) hx0 => ?_)
 refine swp_seq ?_
 refine sQ (kt:=[0,2,4,11,12,13,14]) (kh:=[0,1]) (q:=True/\True) (st':=ASt.mk [(0,.ptr 0 [PS.fld 1]),(2,iv (m:Int)),(4,.ptr 1 []),(11,aInts c.new),(12,iv (↑(c.new.length):Int)),(13,iv (↑(x0.1):Int)),(14,bv (decide ((↑(x0.1):Int) < (↑(c.new.length):Int))))] [(0,.cells 107 (cWay (WayS.mk frm x0.2))),(1,.cells 32 (cFnd c))] 10057) ⟨tv,tv⟩ ?_
 refine swp_seq ?_
 refine swp_cond (decide ((↑(x0.1):Int) < (↑(c.new.length):Int))) (by kernel_rfl) (fun h1 => ?_) (fun h1 => ?_)
 ·refine swp_skip (swp_seq (swp_block (swp_seq ?_)))
  refine sQ (kt:=[0,2,4,11,12,13,7,8]) (kh:=[0,1]) (q:=True/\(0<=(↑(x0.1):Int)/\(↑(x0.1):Int) < (↑(c.new.length):Int))/\tn 3) (st':=ASt.mk [(0,.ptr 0 [PS.fld 1]),(2,iv (m:Int)),(4,.ptr 1 []),(11,aInts c.new),(12,iv (↑(c.new.length):Int)),(13,iv (↑(x0.1):Int)),(7,iv (↑(x0.1):Int)),(8,iv (c.new.getD x0.1 0))] [(0,.cells 107 (cWay (WayS.mk frm x0.2))),(1,.cells 32 (cFnd c))] 10097) ⟨tv,⟨(o2 hp x0 hx0 h1),(o3 hp x0 hx0 h1)⟩,tp 3⟩ ?_
  refine swp_seq ?_
  refine sQ (kt:=[0,2,4,11,12,13,8,9]) (kh:=[0,1]) (q:=True/\True/\True/\True/\(0<=(m:Int)/\(m:Int) < (↑3:Int))/\(0<=(↑(x0.1):Int)/\(↑(x0.1):Int) < (↑3:Int))/\True/\True) (st':=ASt.mk [(0,.ptr 0 [PS.fld 1]),(2,iv (m:Int)),(4,.ptr 1 []),(11,aInts c.new),(12,iv (↑(c.new.length):Int)),(13,iv (↑(x0.1):Int)),(8,iv (c.new.getD x0.1 0)),(9,.ptr 0 [PS.fld 1,PS.idx m 6,PS.idx x0.1 2])] [(0,.cells 107 (cWay (WayS.mk frm x0.2))),(1,.cells 32 (cFnd c))] 10153) ⟨tv,tv,tv,tv,⟨(o4 hp x0 hx0 h1),(o5 hp x0 hx0 h1)⟩,⟨(o6 hp x0 hx0 h1),(o7 hp x0 hx0 h1)⟩,tv,tv⟩ ?_
  refine swp_seq (swp_seq ?_)
  refine sQ (kt:=[0,2,4,11,12,13,9,24]) (kh:=[0,1]) (q:=True/\True) (st':=ASt.mk [(0,.ptr 0 [PS.fld 1]),(2,iv (m:Int)),(4,.ptr 1 []),(11,aInts c.new),(12,iv (↑(c.new.length):Int)),(13,iv (↑(x0.1):Int)),(9,.ptr 0 [PS.fld 1,PS.idx m 6,PS.idx x0.1 2]),(24,iv (c.new.getD x0.1 0))] [(0,.cells 107 (cWay (WayS.mk frm x0.2))),(1,.cells 32 (cFnd c))] 10161) ⟨tv,tv⟩ ?_
  refine swp_block (swp_seq ?_)
  refine sQ (kt:=[0,2,4,11,12,13,9,24,25]) (kh:=[0,1]) (q:=tn 2) (st':=ASt.mk [(0,.ptr 0 [PS.fld 1]),(2,iv (m:Int)),(4,.ptr 1 []),(11,aInts c.new),(12,iv (↑(c.new.length):Int)),(13,iv (↑(x0.1):Int)),(9,.ptr 0 [PS.fld 1,PS.idx m 6,PS.idx x0.1 2]),(24,iv (c.new.getD x0.1 0)),(25,bv (decide (c.new.getD x0.1 0=0)))] [(0,.cells 107 (cWay (WayS.mk frm x0.2))),(1,.cells 32 (cFnd c))] 10177) (tp 2) ?_
  refine swp_cond (decide (c.new.getD x0.1 0=0)) (by kernel_rfl) (fun h2 => ?_) (fun h2 => ?_)
  ·refine sQ (kt:=[0,2,4,11,12,13,9]) (kh:=[0,1]) (q:=True/\True/\True/\True/\(m < 3/\x0.1 < 3/\True)/\True/\True/\inI (c.minute + 1)/\True/\True/\True/\(m < 3/\x0.1 < 3/\True)/\True) (st':=ASt.mk [(0,.ptr 0 [PS.fld 1]),(2,iv (m:Int)),(4,.ptr 1 []),(11,aInts c.new),(12,iv (↑(c.new.length):Int)),(13,iv (↑(x0.1):Int)),(9,.ptr 0 [PS.fld 1,PS.idx m 6,PS.idx x0.1 2])] [(0,.cells 107 [aInts frm,.arr 6 3 fun (j:Nat)=>Decidable.rec (fun (h:¬j=m)=>[.arr 2 3 fun (p:Nat)=>cSpan ((WayS.mk frm x0.2).whn j p)]) (fun (h:j=m)=>[.arr 2 3 fun (j:Nat)=>if j=x0.1 then [] ++ ([iv (max ((WayS.mk frm x0.2).whn m x0.1).lo (c.minute + 1))] ++ [iv ((WayS.mk frm x0.2).whn m x0.1).hi]) else cSpan ((WayS.mk frm x0.2).whn m j)]) (instDecidableEqNat j m)]),(1,.cells 32 (cFnd c))] 10273) ⟨tv,tv,tv,tv,⟨hp.1,(o8 hp x0 hx0 h1 h2),tv⟩,tv,tv,(o9 hp x0 hx0 h1 h2),tv,tv,tv,⟨hp.1,(o10 hp x0 hx0 h1 h2),tv⟩,tv⟩ ?_
   refine swp_seq ?_
   refine swp_ent (ent_p (st2:=ASt.mk [(0,AV.ptr 0 [PS.fld 1]),(2,iv (m:Int)),(4,AV.ptr 1 []),(11,aInts c.new),(12,iv (↑(c.new.length):Int)),(13,iv (↑(x0.1):Int)),(9,AV.ptr 0 [PS.fld 1,PS.idx m 6,PS.idx x0.1 2])] [(0,OB.cells 107 (cWay (WayS.mk frm (upd2 x0.2 m x0.1 (seeOne c x0.1 (x0.2 m x0.1)))))),(1,OB.cells 32 (cFnd c))] 10273) hE [] [(0,.same 0),(1,.same 1)] [2,11,12,13] [1] (((zE (some (Src.same 0))/\zE [PS.fld 1])/\(zT (iv (m:Int)))/\(zP 1)/\(zT (aInts c.new))/\(zT (iv (↑(c.new.length):Int)))/\(zT (iv (↑(x0.1):Int)))/\(zE (some (Src.same 0))/\zE [PS.fld 1,PS.idx m 6,PS.idx x0.1 2])/\True)/\((107=107/\((1=1/\frm.length=frm.length /\ ∀ (i3:Nat),i3 < frm.length -> [iv (frm.getD i3 0)] = [iv (frm.getD i3 0)])/\(6=6/\3=3 /\ ∀ (i5:Nat),i5 < 3->Decidable.rec (fun (h:¬i5=m)=>[AV.arr 2 3 fun (p:Nat)=>cSpan ((WayS.mk frm x0.2).whn i5 p)]) (fun (h:i5=m)=>[AV.arr 2 3 fun (j:Nat)=>if j=x0.1 then [] ++ ([iv (max ((WayS.mk frm x0.2).whn m x0.1).lo (c.minute + 1))] ++ [iv ((WayS.mk frm x0.2).whn m x0.1).hi]) else cSpan ((WayS.mk frm x0.2).whn m j)]) (instDecidableEqNat i5 m) = [AV.arr 2 3 fun (p:Nat)=>cSpan ((WayS.mk frm (upd2 x0.2 m x0.1 (seeOne c x0.1 (x0.2 m x0.1)))).whn i5 p)])/\True)/\true=true)/\(zT (OB.cells 32 (cFnd c)))/\True)/\T2) (by kernel_rfl) (by kernel_rfl) ⟨⟨⟨rfl,rfl⟩,⟨rfl,rfl⟩,⟨rfl,rfl⟩,⟨rfl,rfl⟩,⟨rfl,rfl⟩,⟨rfl,rfl⟩,⟨rfl,rfl⟩,tv⟩,⟨⟨rfl,⟨⟨rfl,rfl,(fun i3=>(fun h4=>rfl))⟩,⟨rfl,rfl,(fun i5=>(fun h6=>(o11 hp x0 hx0 h1 h2 i5 h6)))⟩,tv⟩,rfl⟩,⟨rfl,rfl⟩,tv⟩,rfl,rfl⟩) ?_
   refine sQ (kt:=[0,2,4,11,12,13,58]) (kh:=[0,1]) (q:=True/\True/\True/\(m < 3/\x0.1 < 3/\True)/\True/\True/\True/\(m < 3/\x0.1 < 3/\True)/\True/\True) (st':=ASt.mk [(0,.ptr 0 [PS.fld 1]),(2,iv (m:Int)),(4,.ptr 1 []),(11,aInts c.new),(12,iv (↑(c.new.length):Int)),(13,iv (↑(x0.1):Int)),(58,bv (decide (((WayS.mk frm (upd2 x0.2 m x0.1 (seeOne c x0.1 (x0.2 m x0.1)))).whn m x0.1).hi < ((WayS.mk frm (upd2 x0.2 m x0.1 (seeOne c x0.1 (x0.2 m x0.1)))).whn m x0.1).lo)))] [(0,.cells 107 (cWay (WayS.mk frm (upd2 x0.2 m x0.1 (seeOne c x0.1 (x0.2 m x0.1)))))),(1,.cells 32 (cFnd c))] 10345) ⟨tv,tv,tv,⟨hp.1,(o12 hp x0 hx0 h1 h2),tv⟩,tv,tv,tv,⟨hp.1,(o13 hp x0 hx0 h1 h2),tv⟩,tv,tv⟩ ?_
   refine swp_cond (decide (((WayS.mk frm (upd2 x0.2 m x0.1 (seeOne c x0.1 (x0.2 m x0.1)))).whn m x0.1).hi < ((WayS.mk frm (upd2 x0.2 m x0.1 (seeOne c x0.1 (x0.2 m x0.1)))).whn m x0.1).lo)) (by kernel_rfl) (fun h7 => ?_) (fun h7 => ?_)
   ·refine swp_seq ?_
    refine sQ (kt:=[6]) (kh:=[0]) (q:=True/\True) (st':=ASt.mk [(6,bv false)] [(0,.cells 107 (cWay (WayS.mk frm (upd2 x0.2 m x0.1 (seeOne c x0.1 (x0.2 m x0.1))))))] 10353) ⟨tv,tv⟩ ?_
    refine swp_ret ?_
    exact ret_p (cWay (WayS.mk frm (upd2 x0.2 m x0.1 (seeOne c x0.1 (x0.2 m x0.1))))) ((True/\True)/\(zN (bv false) (bv (see c m f).1))/\T3) (by kernel_rfl) (by kernel_rfl) ⟨⟨tv,tv⟩,⟨(congrArg bv (o14 hp x0 hx0 h1 h2 h7)),rfl⟩,rfl,rfl,rfl⟩ (o15 hp x0 hx0 h1 h2 h7)
   ·refine swp_skip ?_
    refine sQ (kt:=[0,2,4,11,12,13]) (kh:=[0,1]) (q:=inI ((↑(x0.1):Int) + 1)/\True/\True) (st':=ASt.mk [(0,.ptr 0 [PS.fld 1]),(2,iv (m:Int)),(4,.ptr 1 []),(11,aInts c.new),(12,iv (↑(c.new.length):Int)),(13,iv ((↑(x0.1):Int) + 1))] [(0,.cells 107 (cWay (WayS.mk frm (upd2 x0.2 m x0.1 (seeOne c x0.1 (x0.2 m x0.1)))))),(1,.cells 32 (cFnd c))] 10361) ⟨(o16 hp x0 hx0 h1 h2 h7),tv,tv⟩ ?_
    exact loop_next (z139_1 b frm f c m) x0 (ent_p hE [] [(0,.same 0),(1,.same 1)] [2,11,12] [1,0] (((zE (some (Src.same 0))/\zE [PS.fld 1])/\(zT (iv (m:Int)))/\(zP 1)/\(zT (aInts c.new))/\(zT (iv (↑(c.new.length):Int)))/\(zN (iv ((↑(x0.1):Int) + 1)) (iv (↑(x0.1 + 1):Int)))/\True)/\((zT (OB.cells 32 (cFnd c)))/\(zT (OB.cells 107 (cWay (WayS.mk frm (upd2 x0.2 m x0.1 (seeOne c x0.1 (x0.2 m x0.1)))))))/\True)/\T2) (by kernel_rfl) (by kernel_rfl) ⟨⟨⟨rfl,rfl⟩,⟨rfl,rfl⟩,⟨rfl,rfl⟩,⟨rfl,rfl⟩,⟨rfl,rfl⟩,⟨(congrArg iv (o17 hp x0 hx0 h1 h2 h7)),rfl⟩,tv⟩,⟨⟨rfl,rfl⟩,⟨rfl,rfl⟩,tv⟩,rfl,rfl⟩) (o18 hp x0 hx0 h1 h2 h7) (o19 hp x0 hx0 h1 h2 h7)
  ·refine swp_seq ?_
   refine sQ (kt:=[0,2,4,11,12,13,9,38]) (kh:=[0,1]) (q:=tn 2) (st':=ASt.mk [(0,.ptr 0 [PS.fld 1]),(2,iv (m:Int)),(4,.ptr 1 []),(11,aInts c.new),(12,iv (↑(c.new.length):Int)),(13,iv (↑(x0.1):Int)),(9,.ptr 0 [PS.fld 1,PS.idx m 6,PS.idx x0.1 2]),(38,bv (decide (c.new.getD x0.1 0=1)))] [(0,.cells 107 (cWay (WayS.mk frm x0.2))),(1,.cells 32 (cFnd c))] 10193) (tp 2) ?_
   refine swp_cond (decide (c.new.getD x0.1 0=1)) (by kernel_rfl) (fun h8 => ?_) (fun h8 => ?_)
   ·refine sQ (kt:=[0,2,4,11,12,13,9]) (kh:=[0,1]) (q:=True/\True/\True/\True/\(m < 3/\x0.1 < 3/\True)/\True/\True/\True/\True/\True/\(m < 3/\x0.1 < 3/\True)/\True) (st':=ASt.mk [(0,.ptr 0 [PS.fld 1]),(2,iv (m:Int)),(4,.ptr 1 []),(11,aInts c.new),(12,iv (↑(c.new.length):Int)),(13,iv (↑(x0.1):Int)),(9,.ptr 0 [PS.fld 1,PS.idx m 6,PS.idx x0.1 2])] [(0,.cells 107 [aInts frm,.arr 6 3 fun (j:Nat)=>Decidable.rec (fun (h:¬j=m)=>[.arr 2 3 fun (p:Nat)=>cSpan ((WayS.mk frm x0.2).whn j p)]) (fun (h:j=m)=>[.arr 2 3 fun (j:Nat)=>if j=x0.1 then [iv ((WayS.mk frm x0.2).whn m x0.1).lo] ++ ([iv (min ((WayS.mk frm x0.2).whn m x0.1).hi c.minute)] ++ []) else cSpan ((WayS.mk frm x0.2).whn m j)]) (instDecidableEqNat j m)]),(1,.cells 32 (cFnd c))] 10281) ⟨tv,tv,tv,tv,⟨hp.1,(o20 hp x0 hx0 h1 h2 h8),tv⟩,tv,tv,tv,tv,tv,⟨hp.1,(o21 hp x0 hx0 h1 h2 h8),tv⟩,tv⟩ ?_
    refine swp_seq ?_
    refine swp_ent (ent_p (st2:=ASt.mk [(0,AV.ptr 0 [PS.fld 1]),(2,iv (m:Int)),(4,AV.ptr 1 []),(11,aInts c.new),(12,iv (↑(c.new.length):Int)),(13,iv (↑(x0.1):Int)),(9,AV.ptr 0 [PS.fld 1,PS.idx m 6,PS.idx x0.1 2])] [(0,OB.cells 107 (cWay (WayS.mk frm (upd2 x0.2 m x0.1 (seeOne c x0.1 (x0.2 m x0.1)))))),(1,OB.cells 32 (cFnd c))] 10281) hE [] [(0,.same 0),(1,.same 1)] [2,11,12,13] [1] (((zE (some (Src.same 0))/\zE [PS.fld 1])/\(zT (iv (m:Int)))/\(zP 1)/\(zT (aInts c.new))/\(zT (iv (↑(c.new.length):Int)))/\(zT (iv (↑(x0.1):Int)))/\(zE (some (Src.same 0))/\zE [PS.fld 1,PS.idx m 6,PS.idx x0.1 2])/\True)/\((107=107/\((1=1/\frm.length=frm.length /\ ∀ (i9:Nat),i9 < frm.length -> [iv (frm.getD i9 0)] = [iv (frm.getD i9 0)])/\(6=6/\3=3 /\ ∀ (i11:Nat),i11 < 3->Decidable.rec (fun (h:¬i11=m)=>[AV.arr 2 3 fun (p:Nat)=>cSpan ((WayS.mk frm x0.2).whn i11 p)]) (fun (h:i11=m)=>[AV.arr 2 3 fun (j:Nat)=>if j=x0.1 then [iv ((WayS.mk frm x0.2).whn m x0.1).lo] ++ ([iv (min ((WayS.mk frm x0.2).whn m x0.1).hi c.minute)] ++ []) else cSpan ((WayS.mk frm x0.2).whn m j)]) (instDecidableEqNat i11 m) = [AV.arr 2 3 fun (p:Nat)=>cSpan ((WayS.mk frm (upd2 x0.2 m x0.1 (seeOne c x0.1 (x0.2 m x0.1)))).whn i11 p)])/\True)/\true=true)/\(zT (OB.cells 32 (cFnd c)))/\True)/\T2) (by kernel_rfl) (by kernel_rfl) ⟨⟨⟨rfl,rfl⟩,⟨rfl,rfl⟩,⟨rfl,rfl⟩,⟨rfl,rfl⟩,⟨rfl,rfl⟩,⟨rfl,rfl⟩,⟨rfl,rfl⟩,tv⟩,⟨⟨rfl,⟨⟨rfl,rfl,(fun i9=>(fun h10=>rfl))⟩,⟨rfl,rfl,(fun i11=>(fun h12=>(o22 hp x0 hx0 h1 h2 h8 i11 h12)))⟩,tv⟩,rfl⟩,⟨rfl,rfl⟩,tv⟩,rfl,rfl⟩) ?_
    refine sQ (kt:=[0,2,4,11,12,13,58]) (kh:=[0,1]) (q:=True/\True/\True/\(m < 3/\x0.1 < 3/\True)/\True/\True/\True/\(m < 3/\x0.1 < 3/\True)/\True/\True) (st':=ASt.mk [(0,.ptr 0 [PS.fld 1]),(2,iv (m:Int)),(4,.ptr 1 []),(11,aInts c.new),(12,iv (↑(c.new.length):Int)),(13,iv (↑(x0.1):Int)),(58,bv (decide (((WayS.mk frm (upd2 x0.2 m x0.1 (seeOne c x0.1 (x0.2 m x0.1)))).whn m x0.1).hi < ((WayS.mk frm (upd2 x0.2 m x0.1 (seeOne c x0.1 (x0.2 m x0.1)))).whn m x0.1).lo)))] [(0,.cells 107 (cWay (WayS.mk frm (upd2 x0.2 m x0.1 (seeOne c x0.1 (x0.2 m x0.1)))))),(1,.cells 32 (cFnd c))] 10353) ⟨tv,tv,tv,⟨hp.1,(o23 hp x0 hx0 h1 h2 h8),tv⟩,tv,tv,tv,⟨hp.1,(o24 hp x0 hx0 h1 h2 h8),tv⟩,tv,tv⟩ ?_
    refine swp_cond (decide (((WayS.mk frm (upd2 x0.2 m x0.1 (seeOne c x0.1 (x0.2 m x0.1)))).whn m x0.1).hi < ((WayS.mk frm (upd2 x0.2 m x0.1 (seeOne c x0.1 (x0.2 m x0.1)))).whn m x0.1).lo)) (by kernel_rfl) (fun h13 => ?_) (fun h13 => ?_)
    ·refine swp_seq ?_
     refine sQ (kt:=[6]) (kh:=[0]) (q:=True/\True) (st':=ASt.mk [(6,bv false)] [(0,.cells 107 (cWay (WayS.mk frm (upd2 x0.2 m x0.1 (seeOne c x0.1 (x0.2 m x0.1))))))] 10361) ⟨tv,tv⟩ ?_
     refine swp_ret ?_
     exact ret_p (cWay (WayS.mk frm (upd2 x0.2 m x0.1 (seeOne c x0.1 (x0.2 m x0.1))))) ((True/\True)/\(zN (bv false) (bv (see c m f).1))/\T3) (by kernel_rfl) (by kernel_rfl) ⟨⟨tv,tv⟩,⟨(congrArg bv (o25 hp x0 hx0 h1 h2 h8 h13)),rfl⟩,rfl,rfl,rfl⟩ (o26 hp x0 hx0 h1 h2 h8 h13)
    ·refine swp_skip ?_
     refine sQ (kt:=[0,2,4,11,12,13]) (kh:=[0,1]) (q:=inI ((↑(x0.1):Int) + 1)/\True/\True) (st':=ASt.mk [(0,.ptr 0 [PS.fld 1]),(2,iv (m:Int)),(4,.ptr 1 []),(11,aInts c.new),(12,iv (↑(c.new.length):Int)),(13,iv ((↑(x0.1):Int) + 1))] [(0,.cells 107 (cWay (WayS.mk frm (upd2 x0.2 m x0.1 (seeOne c x0.1 (x0.2 m x0.1)))))),(1,.cells 32 (cFnd c))] 10369) ⟨(o27 hp x0 hx0 h1 h2 h8 h13),tv,tv⟩ ?_
     exact loop_next (z139_1 b frm f c m) x0 (ent_p hE [] [(0,.same 0),(1,.same 1)] [2,11,12] [1,0] (((zE (some (Src.same 0))/\zE [PS.fld 1])/\(zT (iv (m:Int)))/\(zP 1)/\(zT (aInts c.new))/\(zT (iv (↑(c.new.length):Int)))/\(zN (iv ((↑(x0.1):Int) + 1)) (iv (↑(x0.1 + 1):Int)))/\True)/\((zT (OB.cells 32 (cFnd c)))/\(zT (OB.cells 107 (cWay (WayS.mk frm (upd2 x0.2 m x0.1 (seeOne c x0.1 (x0.2 m x0.1)))))))/\True)/\T2) (by kernel_rfl) (by kernel_rfl) ⟨⟨⟨rfl,rfl⟩,⟨rfl,rfl⟩,⟨rfl,rfl⟩,⟨rfl,rfl⟩,⟨rfl,rfl⟩,⟨(congrArg iv (o28 hp x0 hx0 h1 h2 h8 h13)),rfl⟩,tv⟩,⟨⟨rfl,rfl⟩,⟨rfl,rfl⟩,tv⟩,rfl,rfl⟩) (o29 hp x0 hx0 h1 h2 h8 h13) (o30 hp x0 hx0 h1 h2 h8 h13)
   ·refine swp_skip (swp_seq ?_)
    refine swp_ent (ent_p (st2:=ASt.mk [(0,AV.ptr 0 [PS.fld 1]),(2,iv (m:Int)),(4,AV.ptr 1 []),(11,aInts c.new),(12,iv (↑(c.new.length):Int)),(13,iv (↑(x0.1):Int)),(9,AV.ptr 0 [PS.fld 1,PS.idx m 6,PS.idx x0.1 2]),(38,bv (decide (c.new.getD x0.1 0=1)))] [(0,OB.cells 107 (cWay (WayS.mk frm (upd2 x0.2 m x0.1 (seeOne c x0.1 (x0.2 m x0.1)))))),(1,OB.cells 32 (cFnd c))] 10193) hE [] [(0,.same 0),(1,.same 1)] [2,11,12,13,38] [1] (((zE (some (Src.same 0))/\zE [PS.fld 1])/\(zT (iv (m:Int)))/\(zP 1)/\(zT (aInts c.new))/\(zT (iv (↑(c.new.length):Int)))/\(zT (iv (↑(x0.1):Int)))/\(zE (some (Src.same 0))/\zE [PS.fld 1,PS.idx m 6,PS.idx x0.1 2])/\(zT (bv (decide (c.new.getD x0.1 0=1))))/\True)/\((107=107/\((1=1/\frm.length=frm.length /\ ∀ (i14:Nat),i14 < frm.length -> [iv (frm.getD i14 0)] = [iv (frm.getD i14 0)])/\(6=6/\3=3 /\ ∀ (i16:Nat),i16 < 3 -> [AV.arr 2 3 fun (p:Nat)=>cSpan ((WayS.mk frm x0.2).whn i16 p)] = [AV.arr 2 3 fun (p:Nat)=>cSpan ((WayS.mk frm (upd2 x0.2 m x0.1 (seeOne c x0.1 (x0.2 m x0.1)))).whn i16 p)])/\True)/\true=true)/\(zT (OB.cells 32 (cFnd c)))/\True)/\T2) (by kernel_rfl) (by kernel_rfl) ⟨⟨⟨rfl,rfl⟩,⟨rfl,rfl⟩,⟨rfl,rfl⟩,⟨rfl,rfl⟩,⟨rfl,rfl⟩,⟨rfl,rfl⟩,⟨rfl,rfl⟩,⟨rfl,rfl⟩,tv⟩,⟨⟨rfl,⟨⟨rfl,rfl,(fun i14=>(fun h15=>rfl))⟩,⟨rfl,rfl,(fun i16=>(fun h17=>(o31 hp x0 hx0 h1 h2 h8 i16 h17)))⟩,tv⟩,rfl⟩,⟨rfl,rfl⟩,tv⟩,rfl,rfl⟩) ?_
    refine sQ (kt:=[0,2,4,11,12,13,58]) (kh:=[0,1]) (q:=True/\True/\True/\(m < 3/\x0.1 < 3/\True)/\True/\True/\True/\(m < 3/\x0.1 < 3/\True)/\True/\True) (st':=ASt.mk [(0,.ptr 0 [PS.fld 1]),(2,iv (m:Int)),(4,.ptr 1 []),(11,aInts c.new),(12,iv (↑(c.new.length):Int)),(13,iv (↑(x0.1):Int)),(58,bv (decide (((WayS.mk frm (upd2 x0.2 m x0.1 (seeOne c x0.1 (x0.2 m x0.1)))).whn m x0.1).hi < ((WayS.mk frm (upd2 x0.2 m x0.1 (seeOne c x0.1 (x0.2 m x0.1)))).whn m x0.1).lo)))] [(0,.cells 107 (cWay (WayS.mk frm (upd2 x0.2 m x0.1 (seeOne c x0.1 (x0.2 m x0.1)))))),(1,.cells 32 (cFnd c))] 10265) ⟨tv,tv,tv,⟨hp.1,(o32 hp x0 hx0 h1 h2 h8),tv⟩,tv,tv,tv,⟨hp.1,(o33 hp x0 hx0 h1 h2 h8),tv⟩,tv,tv⟩ ?_
    refine swp_cond (decide (((WayS.mk frm (upd2 x0.2 m x0.1 (seeOne c x0.1 (x0.2 m x0.1)))).whn m x0.1).hi < ((WayS.mk frm (upd2 x0.2 m x0.1 (seeOne c x0.1 (x0.2 m x0.1)))).whn m x0.1).lo)) (by kernel_rfl) (fun h18 => ?_) (fun h18 => ?_)
    ·refine swp_seq ?_
     refine sQ (kt:=[6]) (kh:=[0]) (q:=True/\True) (st':=ASt.mk [(6,bv false)] [(0,.cells 107 (cWay (WayS.mk frm (upd2 x0.2 m x0.1 (seeOne c x0.1 (x0.2 m x0.1))))))] 10273) ⟨tv,tv⟩ ?_
     refine swp_ret ?_
     exact ret_p (cWay (WayS.mk frm (upd2 x0.2 m x0.1 (seeOne c x0.1 (x0.2 m x0.1))))) ((True/\True)/\(zN (bv false) (bv (see c m f).1))/\T3) (by kernel_rfl) (by kernel_rfl) ⟨⟨tv,tv⟩,⟨(congrArg bv (o34 hp x0 hx0 h1 h2 h8 h18)),rfl⟩,rfl,rfl,rfl⟩ (o35 hp x0 hx0 h1 h2 h8 h18)
    ·refine swp_skip ?_
     refine sQ (kt:=[0,2,4,11,12,13]) (kh:=[0,1]) (q:=inI ((↑(x0.1):Int) + 1)/\True/\True) (st':=ASt.mk [(0,.ptr 0 [PS.fld 1]),(2,iv (m:Int)),(4,.ptr 1 []),(11,aInts c.new),(12,iv (↑(c.new.length):Int)),(13,iv ((↑(x0.1):Int) + 1))] [(0,.cells 107 (cWay (WayS.mk frm (upd2 x0.2 m x0.1 (seeOne c x0.1 (x0.2 m x0.1)))))),(1,.cells 32 (cFnd c))] 10281) ⟨(o36 hp x0 hx0 h1 h2 h8 h18),tv,tv⟩ ?_
     exact loop_next (z139_1 b frm f c m) x0 (ent_p hE [] [(0,.same 0),(1,.same 1)] [2,11,12] [1,0] (((zE (some (Src.same 0))/\zE [PS.fld 1])/\(zT (iv (m:Int)))/\(zP 1)/\(zT (aInts c.new))/\(zT (iv (↑(c.new.length):Int)))/\(zN (iv ((↑(x0.1):Int) + 1)) (iv (↑(x0.1 + 1):Int)))/\True)/\((zT (OB.cells 32 (cFnd c)))/\(zT (OB.cells 107 (cWay (WayS.mk frm (upd2 x0.2 m x0.1 (seeOne c x0.1 (x0.2 m x0.1)))))))/\True)/\T2) (by kernel_rfl) (by kernel_rfl) ⟨⟨⟨rfl,rfl⟩,⟨rfl,rfl⟩,⟨rfl,rfl⟩,⟨rfl,rfl⟩,⟨rfl,rfl⟩,⟨(congrArg iv (o37 hp x0 hx0 h1 h2 h8 h18)),rfl⟩,tv⟩,⟨⟨rfl,rfl⟩,⟨rfl,rfl⟩,tv⟩,rfl,rfl⟩) (o38 hp x0 hx0 h1 h2 h8 h18) (o39 hp x0 hx0 h1 h2 h8 h18)
 ·refine swp_exit (swp_seq ?_)
  refine sQ (kt:=[6]) (kh:=[0]) (q:=True/\True) (st':=ASt.mk [(6,bv true)] [(0,.cells 107 (cWay (WayS.mk frm x0.2)))] 10065) ⟨tv,tv⟩ ?_
  refine swp_ret ?_
  exact ret_p (cWay (WayS.mk frm x0.2)) ((True/\True)/\(zN (bv true) (bv (see c m f).1))/\T3) (by kernel_rfl) (by kernel_rfl) ⟨⟨tv,tv⟩,⟨(congrArg bv (o40 hp x0 hx0 h1)),rfl⟩,rfl,rfl,rfl⟩ (o41 hp x0 hx0 h1)
theorem arr_upd (f:Nat->Nat->Span) (m p:Nat) (s:Span) (g:Nat->List AV) (i:Nat) (hg:∀ j,g j=if j=p then cSpan s else cSpan (f m j)) :
  (if i=m then [AV.arr 2 3 g] else [AV.arr 2 3 fun q=>cSpan (f i q)]) = [AV.arr 2 3 fun q=>cSpan (upd2 f m p s i q)]:=by
 split
 ·rename_i e
  subst e
  refine congrArg (fun g=>[AV.arr 2 3 g]) (funext fun j => ?_)
  rw [hg]
  simp only [upd2,if_true]
  split <;> rfl
 ·rename_i e
  refine congrArg (fun g=>[AV.arr 2 3 g]) (funext fun j => ?_)
  simp only [upd2,if_neg e]
theorem t139 (b:Nat) (frm:List Int) (f:Nat->Nat->Span) (c:Fnd) (m:Nat):Triple Try.prog 139 (s139 b frm f c m):=by
 apply w139
 case o1=>intro _; exact ⟨Nat.zero_le _,rfl⟩
 case o11 =>
  intro hp x hx hl h i hi
  simp only [decide_eq_true_eq] at h
  exact arr_upd x.2 m x.1 _ _ i (fun j=>by simp only [seeOne,h,if_true]; rfl)
 case o22 =>
  intro hp x hx hl h0 h i hi
  simp only [decide_eq_true_eq,decide_eq_false_iff_not] at h h0
  exact arr_upd x.2 m x.1 _ _ i (fun j=>by simp only [seeOne,h]; rfl)
 case o31 =>
  intro hp x hx hl h0 h i hi
  simp only [decide_eq_false_iff_not] at h h0
  have:seeOne c x.1 (x.2 m x.1)=x.2 m x.1:=by simp only [seeOne,if_neg h0,if_neg h]
  rw [this,upd2_id]
 case o14=>intro hp x hx hl _ h; simp only [decide_eq_true_eq] at hl h; rw [see_stop hx.2 (by omega) h]
 case o15=>intro hp x hx hl _ h; simp only [decide_eq_true_eq] at hl h; rw [see_stop hx.2 (by omega) h]
 case o18=>intro hp x hx hl _ h; simp only [decide_eq_true_eq,decide_eq_false_iff_not] at hl h; exact ⟨by show x.1 + 1<=_; omega,see_go hx.2 (by omega) h⟩
 case o25=>intro hp x hx hl _ _ h; simp only [decide_eq_true_eq] at hl h; rw [see_stop hx.2 (by omega) h]
 case o26=>intro hp x hx hl _ _ h; simp only [decide_eq_true_eq] at hl h; rw [see_stop hx.2 (by omega) h]
 case o29=>intro hp x hx hl _ _ h; simp only [decide_eq_true_eq,decide_eq_false_iff_not] at hl h; exact ⟨by show x.1 + 1<=_; omega,see_go hx.2 (by omega) h⟩
 case o34=>intro hp x hx hl _ _ h; simp only [decide_eq_true_eq] at hl h; rw [see_stop hx.2 (by omega) h]
 case o35=>intro hp x hx hl _ _ h; simp only [decide_eq_true_eq] at hl h; rw [see_stop hx.2 (by omega) h]
 case o38=>intro hp x hx hl _ _ h; simp only [decide_eq_true_eq,decide_eq_false_iff_not] at hl h; exact ⟨by show x.1 + 1<=_; omega,see_go hx.2 (by omega) h⟩
 case o40=>intro hp x hx hl; simp only [decide_eq_false_iff_not] at hl; rw [see_end hx.2 (by omega)]
 case o41=>intro hp x hx hl; simp only [decide_eq_false_iff_not] at hl; rw [see_end hx.2 (by omega)]
 all_goals ((repeat intro _) <;> (try simp only [v0,v1,v2,v3,v4,v5,v6,v7,v8,v9,inI,fits,Go.Sh.small] at *) <;> first | (exact rfl) | omega | exact vz | (simp_all; done) | (simp_all; omega))
end Go.Ab
namespace Go.Sh
instance:Inhabited WayS:=⟨⟨[],fun _ _=>default⟩⟩
def firstWhn (r:Run) (n:Nat):Nat->Nat->Span:=fun m p=>if m < n then (if p < (mach r m).changes.length then chg (mach r m) p else ⟨0,0⟩) else ⟨0,0⟩
def one (r:Run) (n:Nat) (w:WayS) (m:Int):Option WayS:=if (see (fnd r n) m.toNat w.whn).1 then some ⟨w.frm ++ [m],(see (fnd r n) m.toNat w.whn).2⟩ else none
def step (r:Run) (n:Nat) (w:WayS):List WayS:=(fnd r n).frm.filterMap (one r n w)
def waysTo (r:Run):Nat->List WayS
 | 0=>[⟨[],firstWhn r r.machines.length⟩]
 | n + 1=>(waysTo r n).flatMap (step r n)
def waysOf (r:Run):List WayS:=waysTo r r.found.length
def acc2 (r:Run) (n i:Nat):List WayS:=((waysTo r n).take i).flatMap (step r n)
def acc3 (r:Run) (n i k:Nat):List WayS:=acc2 r n i ++ ((fnd r n).frm.take k).filterMap (one r n ((waysTo r n).getD i default))
theorem acc3_zero (r:Run) (n i:Nat):acc3 r n i 0=acc2 r n i:=by simp [acc3]
theorem acc3_some {r:Run} {n i k:Nat} (hk:k < (fnd r n).frm.length) (h:(see (fnd r n) ((fnd r n).frm.getD k 0).toNat ((waysTo r n).getD i default).whn).1=true) :
  acc3 r n i (k + 1)=acc3 r n i k ++ [⟨((waysTo r n).getD i default).frm ++ [(fnd r n).frm.getD k 0],(see (fnd r n) ((fnd r n).frm.getD k 0).toNat ((waysTo r n).getD i default).whn).2⟩]:=by
 unfold acc3
 rw [Go.Ab.take_succ _ 0 hk,List.filterMap_append,← List.append_assoc]
 congr 1
 simp only [List.filterMap_cons,one,h,if_true,List.filterMap_nil]
theorem acc3_none {r:Run} {n i k:Nat} (hk:k < (fnd r n).frm.length) (h:(see (fnd r n) ((fnd r n).frm.getD k 0).toNat ((waysTo r n).getD i default).whn).1=false) :
  acc3 r n i (k + 1)=acc3 r n i k:=by
 unfold acc3
 rw [Go.Ab.take_succ _ 0 hk,List.filterMap_append]
 simp only [List.filterMap_cons,one,h,Bool.false_eq_true,if_false,List.filterMap_nil,List.append_nil]
theorem acc3_full {r:Run} {n i k:Nat} (hk:(fnd r n).frm.length<=k) (hi:i < (waysTo r n).length):acc3 r n i k=acc2 r n (i + 1):=by
 unfold acc3 acc2
 rw [List.take_of_length_le hk,Go.Ab.take_succ _ default hi,List.flatMap_append]
 simp [step]
theorem acc2_full {r:Run} {n i:Nat} (hi:(waysTo r n).length<=i):acc2 r n i=waysTo r (n + 1):=by
 unfold acc2
 rw [List.take_of_length_le hi,waysTo]
theorem step_len {r:Run} (ok:Ok r) {n:Nat} (h:n < r.found.length) (w:WayS):(step r n w).length<=3:=by
 have h1:=frm_len ok h
 have h2:=List.length_filterMap_le (one r n w) (fnd r n).frm
 unfold step; omega
theorem waysTo_len {r:Run} (ok:Ok r):∀ n,n<=r.found.length->(waysTo r n).length<=3 ^ n:=by
 intro n
 induction n with
 | zero=>intro _; exact Nat.le_refl 1
 | succ n ih =>
  intro h
  have h1:=ih (by omega)
  rw [waysTo,Nat.pow_succ]
  exact Nat.le_trans (Go.Ab.flatMap_len (step r n) 3 _ (fun w _=>step_len ok (by omega) w)) (Nat.mul_le_mul_right 3 h1)
theorem waysTo_bound {r:Run} (ok:Ok r) {n:Nat} (h:n<=r.found.length):(waysTo r n).length<=729:=by
 have h2:=ok.found
 exact Nat.le_trans (waysTo_len ok n h) (pow3 (by omega))
theorem acc2_len {r:Run} (ok:Ok r) {n:Nat} (h:n < r.found.length) (i:Nat):(acc2 r n i).length<=2187:=by
 unfold acc2
 have h1:=Go.Ab.flatMap_len (step r n) 3 ((waysTo r n).take i) (fun w _=>step_len ok h w)
 have h2:=waysTo_bound ok (n:=n) (by omega)
 rw [List.length_take] at h1
 have h3:min i (waysTo r n).length * 3<=729 * 3:=Nat.mul_le_mul_right 3 (by omega)
 omega
theorem acc3_len {r:Run} (ok:Ok r) {n:Nat} (h:n < r.found.length) (i k:Nat):(acc3 r n i k).length<=2190:=by
 unfold acc3
 have h1:=acc2_len ok h i
 have h2:=List.length_filterMap_le (one r n ((waysTo r n).getD i default)) ((fnd r n).frm.take k)
 have h3:=frm_len ok h
 rw [List.length_take] at h2
 rw [List.length_append]; omega
theorem waysTo_frm {r:Run}:∀ n w,w ∈ waysTo r n->w.frm.length=n:=by
 intro n
 induction n with
 | zero=>intro w h; simp [waysTo] at h; rw [h]; rfl
 | succ n ih =>
  intro w h
  rw [waysTo,List.mem_flatMap] at h
  obtain ⟨v,hv,h⟩:=h
  unfold step at h
  rw [List.mem_filterMap] at h
  obtain ⟨m,_,h⟩:=h
  unfold one at h
  split at h
  ·cases h
   show (v.frm ++ [m]).length=n + 1
   rw [List.length_append,ih v hv]; rfl
  ·cases h
theorem firstWhn_succ (r:Run) (x:Nat) (s:Nat->Nat->Span) (h:s=firstWhn r x) (i p:Nat) (hi:i=x):firstWhn r (x + 1) i p=if p < (mach r x).changes.length then chg (mach r x) p else s x p:=by
 subst hi; subst h
 unfold firstWhn
 rw [if_pos (by omega),if_neg (Nat.lt_irrefl i)]
theorem firstWhn_other (r:Run) (x i p:Nat) (hi:i ≠ x):firstWhn r (x + 1) i p=firstWhn r x i p:=by
 unfold firstWhn
 by_cases h:i < x
 ·rw [if_pos h,if_pos (by omega)]
 ·rw [if_neg h,if_neg (by omega)]
end Go.Sh
namespace Go.En
open Go Go.Ab Go.Sh
def aWays (l:List WayS):AV := .sl 19 l.length (fun i=>cWay (l.getD i default))
end Go.En
namespace Go.Ab
open Go Go.RowKit Go.Proofs Go.Sh Go.En
def s116 (r:Run):CallSpec:={ args:=[vRun r],res:=aWays (waysOf r),pre:=okRun r=true }
def h116a (r:Run):Hint:={ X:=Nat,M:=fun i=>[(19,iv i)],H:=fun i=>[(24,.cells 107 (cWay ⟨[],firstWhn r i⟩))],I:=fun i=>i<=r.machines.length,mu:=fun i=>r.machines.length - i,x0:=(0:Nat),nx:=fun i=>i + 1 }
def h116b (r:Run):Hint:={ X:=Nat,M:=fun i=>[(37,iv i),(6,.vec 5000)],H:=fun i=>[(5000,.vec 107 19 (waysTo r i).length (fun j=>cWay ((waysTo r i).getD j default)))],I:=fun i=>i<=r.found.length,mu:=fun i=>r.found.length - i,x0:=(0:Nat),nx:=fun i=>i + 1 }
def h116c (r:Run) (n:Nat):Hint:={ X:=Nat,M:=fun i=>[(43,iv i),(9,.vec 5001)],H:=fun i=>[(5001,.vec 107 19 (acc2 r n i).length (fun j=>cWay ((acc2 r n i).getD j default)))],I:=fun i=>i<=(waysTo r n).length,mu:=fun i=>(waysTo r n).length - i,x0:=(0:Nat),nx:=fun i=>i + 1 }
def h116d (r:Run) (n i:Nat):Hint:={ X:=Nat,M:=fun k=>[(50,iv k),(9,.vec 5002)],H:=fun k=>[(5002,.vec 107 19 (acc3 r n i k).length (fun j=>cWay ((acc3 r n i k).getD j default)))],I:=fun k=>k<=(fnd r n).frm.length,mu:=fun k=>(fnd r n).frm.length - k,x0:=(0:Nat),nx:=fun k=>k + 1 }
def c116 (r:Run) (n i k:Nat):CallSpec:=s139 40432 (((waysTo r n).getD i default).frm ++ [(fnd r n).frm.getD k 0]) ((waysTo r n).getD i default).whn (fnd r n) ((fnd r n).frm.getD k 0).toNat
end Go.Ab
namespace Go.Ab
open Go Go.RowKit Go.Proofs Go.Sh Go.En
abbrev z116_1 (r:Run) (x8:Nat) (x12:Nat):LoopAnn:=Hint.ann (h116d r x8 x12) [(35,AV.sl 3 r.found.length fun (i:Nat)=>cFnd (fnd r i)),(36,iv (↑(r.found.length):Int)),(37,iv (x8:Int)),(8,AV.ptr 20160 []),(41,AV.vec 5000),(42,iv (↑((waysTo r x8).length):Int)),(43,iv (x12:Int)),(11,AV.ptr 30232 []),(48,aInts (fnd r x8).frm),(49,iv (↑((fnd r x8).frm.length):Int))] [(20160,OB.cells 32 (cFnd (fnd r x8))),(5000,OB.vec 107 19 (waysTo r x8).length fun (j:Nat)=>cWay ((waysTo r x8).getD j default)),(30232,OB.cells 107 (cWay ((waysTo r x8).getD x12 default)))] 40280
abbrev z116_2 (r:Run) (x8:Nat):LoopAnn:=Hint.ann (h116c r x8) [(35,AV.sl 3 r.found.length fun (i:Nat)=>cFnd (fnd r i)),(36,iv (↑(r.found.length):Int)),(37,iv (x8:Int)),(8,AV.ptr 20160 []),(41,AV.vec 5000),(42,iv (↑((waysTo r x8).length):Int))] [(20160,OB.cells 32 (cFnd (fnd r x8))),(5000,OB.vec 107 19 (waysTo r x8).length fun (j:Nat)=>cWay ((waysTo r x8).getD j default))] 30208
abbrev z116_3 (r:Run):LoopAnn:=Hint.ann (h116a r) [(1,AV.ptr 0 []),(3,AV.ptr 24 []),(17,AV.sl 2 r.machines.length fun (i:Nat)=>cMach (mach r i)),(18,iv (↑(r.machines.length):Int))] [(0,OB.cells 25 (cRun r))] 10072
abbrev z116_4 (r:Run):LoopAnn:=Hint.ann (h116b r) [(35,AV.sl 3 r.found.length fun (i:Nat)=>cFnd (fnd r i)),(36,iv (↑(r.found.length):Int))] [] 20136
abbrev q116_1 (r:Run) (C:Nat->Prop):Prop:=okRun r=true -> ∀ (x0:Nat),x0<=r.machines.length->decide ((x0:Int) < (↑(r.machines.length):Int))=true->C x0
abbrev q116_2 (r:Run) (C:Nat->Prop):Prop:=okRun r=true -> ∀ (x0:Nat),x0<=r.machines.length->decide ((x0:Int) < (↑(r.machines.length):Int))=false->C x0
abbrev q116_3 (r:Run) (C:Nat->Nat->Prop):Prop:=q116_2 r fun x0 => ∀ (x8:Nat),x8<=r.found.length->decide ((x8:Int) < (↑(r.found.length):Int))=true->C x0 x8
abbrev q116_4 (r:Run) (C:Nat->Nat->Nat->Prop):Prop:=q116_3 r fun x0 x8 => ∀ (x12:Nat),x12<=(waysTo r x8).length->decide ((x12:Int) < (↑((waysTo r x8).length):Int))=true->C x0 x8 x12
abbrev q116_5 (r:Run) (C:Nat->Nat->Nat->Nat->Prop):Prop:=q116_4 r fun x0 x8 x12 => ∀ (x14:Nat),x14<=(fnd r x8).frm.length->decide ((x14:Int) < (↑((fnd r x8).frm.length):Int))=true->C x0 x8 x12 x14
abbrev q116_6 (r:Run) (C:Nat->Nat->Nat->Nat->Prop):Prop:=q116_5 r fun x0 x8 x12 x14=>(see (fnd r x8) ((fnd r x8).frm.getD x14 0).toNat ((waysTo r x8).getD x12 default).whn).1=true->C x0 x8 x12 x14
abbrev q116_7 (r:Run) (C:Nat->Nat->Nat->Nat->Prop):Prop:=q116_5 r fun x0 x8 x12 x14=>(see (fnd r x8) ((fnd r x8).frm.getD x14 0).toNat ((waysTo r x8).getD x12 default).whn).1=false->C x0 x8 x12 x14
abbrev q116_8 (r:Run) (C:Nat->Nat->Nat->Nat->Prop):Prop:=q116_4 r fun x0 x8 x12 => ∀ (x14:Nat),x14<=(fnd r x8).frm.length->decide ((x14:Int) < (↑((fnd r x8).frm.length):Int))=false->C x0 x8 x12 x14
abbrev q116_9 (r:Run) (C:Nat->Nat->Nat->Prop):Prop:=q116_3 r fun x0 x8 => ∀ (x12:Nat),x12<=(waysTo r x8).length->decide ((x12:Int) < (↑((waysTo r x8).length):Int))=false->C x0 x8 x12
theorem w116 (r:Run)
 (o0:okRun r=true->0=(↑0:Int))
 (o1:okRun r=true -> ∀ (i1:Nat),i1 < 3 -> [AV.arr 2 3 fun (x:Nat)=>[iv 0,iv 0]] = [AV.arr 2 3 fun (p:Nat)=>cSpan ((WayS.mk [] (firstWhn r 0)).whn i1 p)])
 (o2:okRun r=true->0<=List.length (Run.machines r))
 (o3:q116_1 r fun x0=>0<=(x0:Int))
 (o4:q116_1 r fun x0=>(x0:Int) < (↑(r.machines.length):Int))
 (o5:q116_1 r fun x0=>0<=(x0:Int))
 (o6:q116_1 r fun x0=>(x0:Int) < (↑3:Int))
 (o7:q116_1 r fun x0=>x0 < 3)
 (o8:q116_1 r fun x0=>x0 < 3)
 (o9:q116_1 r fun x0=>(mach r x0).changes.length<=3)
 (o10:q116_1 r fun x0=>0 < (mach r x0).changes.length)
 (o11:q116_1 r fun x0=>inI ((x0:Int) + 1))
 (o12:q116_1 r fun x0=>(x0:Int) + 1=(↑(x0 + 1):Int))
 (o13:q116_1 r fun x0 => ∀ (i6:Nat),i6 < 3->Decidable.rec (fun (h:¬i6=x0)=>[AV.arr 2 3 fun (p:Nat)=>cSpan ((WayS.mk [] (firstWhn r x0)).whn i6 p)]) (fun (h:i6=x0)=>[AV.arr 2 3 fun (j:Nat)=>if j < (mach r x0).changes.length then [iv ((mach r x0).changes.getD j default).lo,iv ((mach r x0).changes.getD j default).hi] else cSpan ((WayS.mk [] (firstWhn r x0)).whn x0 j)] ++ []) (instDecidableEqNat i6 x0) = [AV.arr 2 3 fun (p:Nat)=>cSpan ((WayS.mk [] (firstWhn r (x0 + 1))).whn i6 p)])
 (o14:q116_1 r fun x0=>x0 + 1<=r.machines.length)
 (o15:q116_1 r fun x0=>r.machines.length - (x0 + 1) < r.machines.length - x0)
 (o16:q116_2 r fun x0=>0=(↑0:Int))
 (o17:q116_2 r fun x0=>1=(waysTo r 0).length)
 (o18:q116_2 r fun x0 => ∀ (i9:Nat),i9 < 1->List.getD [[AV.sl 1 0 fun (i:Nat)=>[iv (List.getD [] i 0)],AV.arr 6 3 fun (m:Nat)=>[AV.arr 2 3 fun (p:Nat)=>cSpan ((WayS.mk [] (firstWhn r x0)).whn m p)]]] i9 (TI.za ti107)=cWay ((waysTo r 0).getD i9 default))
 (o19:q116_2 r fun x0=>0<=r.found.length)
 (o20:q116_3 r fun x0 x8=>0<=(x8:Int))
 (o21:q116_3 r fun x0 x8=>(x8:Int) < (↑(r.found.length):Int))
 (o22:q116_3 r fun x0 x8=>0=(↑0:Int))
 (o23:q116_3 r fun x0 x8=>(acc2 r x8 0).length=0)
 (o24:q116_3 r fun x0 x8=>0<=(waysTo r x8).length)
 (o25:q116_4 r fun x0 x8 x12=>0<=(x12:Int))
 (o26:q116_4 r fun x0 x8 x12=>(x12:Int) < (↑((waysTo r x8).length):Int))
 (o27:q116_4 r fun x0 x8 x12=>x12 < (waysTo r x8).length)
 (o28:q116_4 r fun x0 x8 x12=>0=(↑0:Int))
 (o29:q116_4 r fun x0 x8 x12=>(acc2 r x8 x12).length=(acc3 r x8 x12 0).length)
 (o30:q116_4 r fun x0 x8 x12 => ∀ (i15:Nat),i15 < (acc2 r x8 x12).length->cWay ((acc2 r x8 x12).getD i15 default)=cWay ((acc3 r x8 x12 0).getD i15 default))
 (o31:q116_4 r fun x0 x8 x12=>0<=(fnd r x8).frm.length)
 (o32:q116_5 r fun x0 x8 x12 x14=>0<=(x14:Int))
 (o33:q116_5 r fun x0 x8 x12 x14=>(x14:Int) < (↑((fnd r x8).frm.length):Int))
 (o34:q116_5 r fun x0 x8 x12 x14=>((waysTo r x8).getD x12 default).frm.length + 1<=65536)
 (o35:q116_5 r fun x0 x8 x12 x14=>((waysTo r x8).getD x12 default).frm.length + 1=(((waysTo r x8).getD x12 default).frm ++ [(fnd r x8).frm.getD x14 0]).length)
 (o36:q116_5 r fun x0 x8 x12 x14 => ∀ (i18:Nat),i18 < (((waysTo r x8).getD x12 default).frm ++ [(fnd r x8).frm.getD x14 0]).length->catF ((waysTo r x8).getD x12 default).frm.length (fun (i:Nat)=>[iv (((waysTo r x8).getD x12 default).frm.getD i 0)]) (fun (j:Nat)=>List.getD [[iv ((fnd r x8).frm.getD x14 0)]] j (TI.za ti3)) i18 = [iv ((((waysTo r x8).getD x12 default).frm ++ [(fnd r x8).frm.getD x14 0]).getD i18 0)])
 (o37:q116_5 r fun x0 x8 x12 x14=>(fnd r x8).frm.getD x14 0=(↑(((fnd r x8).frm.getD x14 0).toNat):Int))
 (o38:q116_5 r fun x0 x8 x12 x14=>((fnd r x8).frm.getD x14 0).toNat < 3)
 (o39:q116_5 r fun x0 x8 x12 x14=>(fnd r x8).new.length<=3)
 (o40:q116_5 r fun x0 x8 x12 x14=>0<=(fnd r x8).minute)
 (o41:q116_5 r fun x0 x8 x12 x14=>(fnd r x8).minute<=1000)
 (o42:q116_6 r fun x0 x8 x12 x14=>(acc3 r x8 x12 x14).length + 1<=65536)
 (o43:q116_6 r fun x0 x8 x12 x14=>inI ((x14:Int) + 1))
 (o44:q116_6 r fun x0 x8 x12 x14=>(x14:Int) + 1=(↑(x14 + 1):Int))
 (o45:q116_6 r fun x0 x8 x12 x14=>(acc3 r x8 x12 x14).length + 1=(acc3 r x8 x12 (x14 + 1)).length)
 (o46:q116_6 r fun x0 x8 x12 x14 => ∀ (i24:Nat),i24 < (acc3 r x8 x12 x14).length + 1->catF (acc3 r x8 x12 x14).length (fun (j:Nat)=>cWay ((acc3 r x8 x12 x14).getD j default)) (fun (j:Nat)=>List.getD [[AV.sl 1 (((waysTo r x8).getD x12 default).frm ++ [(fnd r x8).frm.getD x14 0]).length fun (i:Nat)=>[iv ((((waysTo r x8).getD x12 default).frm ++ [(fnd r x8).frm.getD x14 0]).getD i 0)],AV.arr 6 3 fun (m:Nat)=>[AV.arr 2 3 fun (p:Nat)=>cSpan ((WayS.mk (((waysTo r x8).getD x12 default).frm ++ [(fnd r x8).frm.getD x14 0]) (see (fnd r x8) ((fnd r x8).frm.getD x14 0).toNat ((waysTo r x8).getD x12 default).whn).2).whn m p)]]] j (TI.za ti107)) i24=cWay ((acc3 r x8 x12 (x14 + 1)).getD i24 default))
 (o47:q116_6 r fun x0 x8 x12 x14=>x14 + 1<=(fnd r x8).frm.length)
 (o48:q116_6 r fun x0 x8 x12 x14=>(fnd r x8).frm.length - (x14 + 1) < (fnd r x8).frm.length - x14)
 (o49:q116_7 r fun x0 x8 x12 x14=>inI ((x14:Int) + 1))
 (o50:q116_7 r fun x0 x8 x12 x14=>(x14:Int) + 1=(↑(x14 + 1):Int))
 (o51:q116_7 r fun x0 x8 x12 x14=>(acc3 r x8 x12 x14).length=(acc3 r x8 x12 (x14 + 1)).length)
 (o52:q116_7 r fun x0 x8 x12 x14 => ∀ (i26:Nat),i26 < (acc3 r x8 x12 x14).length->cWay ((acc3 r x8 x12 x14).getD i26 default)=cWay ((acc3 r x8 x12 (x14 + 1)).getD i26 default))
 (o53:q116_7 r fun x0 x8 x12 x14=>x14 + 1<=(fnd r x8).frm.length)
 (o54:q116_7 r fun x0 x8 x12 x14=>(fnd r x8).frm.length - (x14 + 1) < (fnd r x8).frm.length - x14)
 (o55:q116_8 r fun x0 x8 x12 x14=>inI ((x12:Int) + 1))
 (o56:q116_8 r fun x0 x8 x12 x14=>(x12:Int) + 1=(↑(x12 + 1):Int))
 (o57:q116_8 r fun x0 x8 x12 x14=>(acc3 r x8 x12 x14).length=(acc2 r x8 (x12 + 1)).length)
 (o58:q116_8 r fun x0 x8 x12 x14 => ∀ (i28:Nat),i28 < (acc3 r x8 x12 x14).length->cWay ((acc3 r x8 x12 x14).getD i28 default)=cWay ((acc2 r x8 (x12 + 1)).getD i28 default))
 (o59:q116_8 r fun x0 x8 x12 x14=>x12 + 1<=(waysTo r x8).length)
 (o60:q116_8 r fun x0 x8 x12 x14=>(waysTo r x8).length - (x12 + 1) < (waysTo r x8).length - x12)
 (o61:q116_9 r fun x0 x8 x12=>inI ((x8:Int) + 1))
 (o62:q116_9 r fun x0 x8 x12=>(x8:Int) + 1=(↑(x8 + 1):Int))
 (o63:q116_9 r fun x0 x8 x12=>(acc2 r x8 x12).length=(waysTo r (x8 + 1)).length)
 (o64:q116_9 r fun x0 x8 x12 => ∀ (i30:Nat),i30 < (acc2 r x8 x12).length->cWay ((acc2 r x8 x12).getD i30 default)=cWay ((waysTo r (x8 + 1)).getD i30 default))
 (o65:q116_9 r fun x0 x8 x12=>x8 + 1<=r.found.length)
 (o66:q116_9 r fun x0 x8 x12=>r.found.length - (x8 + 1) < r.found.length - x8)
 (o67:q116_2 r fun x0 => ∀ (x8:Nat),x8<=r.found.length->decide ((x8:Int) < (↑(r.found.length):Int))=false->(waysTo r x8).length=(waysOf r).length)
 (o68:q116_2 r fun x0 => ∀ (x8:Nat),x8<=r.found.length->decide ((x8:Int) < (↑(r.found.length):Int))=false -> ∀ (i32:Nat),i32 < (waysOf r).length->cWay ((waysTo r x8).getD i32 default)=cWay ((waysOf r).getD i32 default)) :
  Triple Try.prog 116 (s116 r):=by
 refine triple_of Try.func116 rfl Try.call116 T0_ok _ rfl rfl rfl rfl (Nat.le_of_ble_eq_true (by kernel_rfl)) (fun _ _ _ _ h=>h) ?_
 intro hp C hC _ hE
 obtain ⟨P,w0,E0,av,hA⟩:=C
 subst hC
 refine swp_seq ?_
 refine sQ (kt:=[1]) (kh:=[0]) (q:=tn 2) (st':=ASt.mk [(1,.ptr 0 [])] [(0,.cells 25 (cRun r))] 16) (tp 2) ?_
 refine swp_seq ?_
 refine sQ (kt:=[1,3]) (kh:=[0,24]) (q:=tn 3) (st':=ASt.mk [(1,.ptr 0 []),(3,.ptr 24 [])] [(0,.cells 25 (cRun r)),(24,.cells 107 [nilv,.arr 6 3 fun (x:Nat)=>[.arr 2 3 fun (x:Nat)=>[iv 0,iv 0]]])] 40) (tp 3) ?_
 refine swp_seq (swp_seq ?_)
 refine sQ (kt:=[1,3,17,18,19]) (kh:=[0,24]) (q:=tn 4) (st':=ASt.mk [(1,.ptr 0 []),(3,.ptr 24 []),(17,.sl 2 r.machines.length fun (i:Nat)=>cMach (mach r i)),(18,iv (↑(r.machines.length):Int)),(19,iv 0)] [(0,.cells 25 (cRun r)),(24,.cells 107 [nilv,.arr 6 3 fun (x:Nat)=>[.arr 2 3 fun (x:Nat)=>[iv 0,iv 0]]])] 72) (tp 4) ?_
 refine swp_block ?_
 refine swp_loopA (z116_3 r) (eQ hE [] [(0,.same 0),(24,.same 24)] [17,18] [0] (((zP 0)/\(zP 24)/\(zT (AV.sl 2 r.machines.length fun (i:Nat)=>cMach (mach r i)))/\(zT (iv (↑(r.machines.length):Int)))/\(zN (iv 0) (iv (↑0:Int)))/\True)/\((zT (OB.cells 25 (cRun r)))/\(107=107/\(0=0/\(6=6/\3=3 /\ ∀ (i1:Nat),i1 < 3 -> [AV.arr 2 3 fun (x:Nat)=>[iv 0,iv 0]] = [AV.arr 2 3 fun (p:Nat)=>cSpan ((WayS.mk [] (firstWhn r 0)).whn i1 p)])/\True)/\true=true)/\True)/\T2) ⟨⟨⟨rfl,rfl⟩,⟨rfl,rfl⟩,⟨rfl,rfl⟩,⟨rfl,rfl⟩,⟨(congrArg iv (o0 hp)),rfl⟩,tv⟩,⟨⟨rfl,rfl⟩,⟨rfl,⟨rfl,⟨rfl,rfl,(fun i1=>(fun h2=>(o1 hp i1 h2)))⟩,tv⟩,rfl⟩,tv⟩,rfl,rfl⟩) (o2 hp) (fun (x0:Nat) hx0 => ?_)
 refine swp_seq ?_
 refine sQ (kt:=[1,3,17,18,19,20]) (kh:=[0,24]) (q:=True/\True) (st':=ASt.mk [(1,.ptr 0 []),(3,.ptr 24 []),(17,.sl 2 r.machines.length fun (i:Nat)=>cMach (mach r i)),(18,iv (↑(r.machines.length):Int)),(19,iv (x0:Int)),(20,bv (decide ((x0:Int) < (↑(r.machines.length):Int))))] [(0,.cells 25 (cRun r)),(24,.cells 107 (cWay (WayS.mk [] (firstWhn r x0))))] 10080) ⟨tv,tv⟩ ?_
 refine swp_seq ?_
 refine swp_cond (decide ((x0:Int) < (↑(r.machines.length):Int))) (by kernel_rfl) (fun h3 => ?_) (fun h3 => ?_)
 ·refine swp_skip (swp_seq (swp_block (swp_seq ?_)))
  refine sQ (kt:=[1,3,17,18,19,5,4]) (kh:=[0,24,10104]) (q:=True/\(0<=(x0:Int)/\(x0:Int) < (↑(r.machines.length):Int))/\tn 4) (st':=ASt.mk [(1,.ptr 0 []),(3,.ptr 24 []),(17,.sl 2 r.machines.length fun (i:Nat)=>cMach (mach r i)),(18,iv (↑(r.machines.length):Int)),(19,iv (x0:Int)),(5,.ptr 10104 []),(4,iv (x0:Int))] [(0,.cells 25 (cRun r)),(24,.cells 107 (cWay (WayS.mk [] (firstWhn r x0)))),(10104,.cells 42 (cMach (mach r x0)))] 10128) ⟨tv,⟨(o3 hp x0 hx0 h3),(o4 hp x0 hx0 h3)⟩,tp 4⟩ ?_
  refine sQ (kt:=[1,3,17,18,19]) (kh:=[0,24]) (q:=True/\True/\(0<=(x0:Int)/\(x0:Int) < (↑3:Int))/\True/\True/\True/\((x0 < 3/\True)/\(x0 < 3/\True)/\(mach r x0).changes.length<=3/\0 < (mach r x0).changes.length)/\True) (st':=ASt.mk [(1,.ptr 0 []),(3,.ptr 24 []),(17,.sl 2 r.machines.length fun (i:Nat)=>cMach (mach r i)),(18,iv (↑(r.machines.length):Int)),(19,iv (x0:Int))] [(0,.cells 25 (cRun r)),(24,.cells 107 [aInts [],.arr 6 3 fun (j:Nat)=>Decidable.rec (fun (h:¬j=x0)=>[.arr 2 3 fun (p:Nat)=>cSpan ((WayS.mk [] (firstWhn r x0)).whn j p)]) (fun (h:j=x0)=>[.arr 2 3 fun (j:Nat)=>if j < (mach r x0).changes.length then [iv ((mach r x0).changes.getD j default).lo,iv ((mach r x0).changes.getD j default).hi] else cSpan ((WayS.mk [] (firstWhn r x0)).whn x0 j)] ++ []) (instDecidableEqNat j x0)])] 10184) ⟨tv,tv,⟨(o5 hp x0 hx0 h3),(o6 hp x0 hx0 h3)⟩,tv,tv,tv,⟨⟨(o7 hp x0 hx0 h3),tv⟩,⟨(o8 hp x0 hx0 h3),tv⟩,(o9 hp x0 hx0 h3),(o10 hp x0 hx0 h3)⟩,tv⟩ ?_
  refine sQ (kt:=[1,3,17,18,19]) (kh:=[0,24]) (q:=inI ((x0:Int) + 1)/\True/\True) (st':=ASt.mk [(1,.ptr 0 []),(3,.ptr 24 []),(17,.sl 2 r.machines.length fun (i:Nat)=>cMach (mach r i)),(18,iv (↑(r.machines.length):Int)),(19,iv ((x0:Int) + 1))] [(0,.cells 25 (cRun r)),(24,.cells 107 [aInts [],.arr 6 3 fun (j:Nat)=>Decidable.rec (fun (h:¬j=x0)=>[.arr 2 3 fun (p:Nat)=>cSpan ((WayS.mk [] (firstWhn r x0)).whn j p)]) (fun (h:j=x0)=>[.arr 2 3 fun (j:Nat)=>if j < (mach r x0).changes.length then [iv ((mach r x0).changes.getD j default).lo,iv ((mach r x0).changes.getD j default).hi] else cSpan ((WayS.mk [] (firstWhn r x0)).whn x0 j)] ++ []) (instDecidableEqNat j x0)])] 10200) ⟨(o11 hp x0 hx0 h3),tv,tv⟩ ?_
  exact loop_next (z116_3 r) x0 (eQ hE [] [(0,.same 0),(24,.same 24)] [17,18] [0] (((zP 0)/\(zP 24)/\(zT (AV.sl 2 r.machines.length fun (i:Nat)=>cMach (mach r i)))/\(zT (iv (↑(r.machines.length):Int)))/\(zN (iv ((x0:Int) + 1)) (iv (↑(x0 + 1):Int)))/\True)/\((zT (OB.cells 25 (cRun r)))/\(107=107/\((1=1/\0=0 /\ ∀ (i4:Nat),i4 < 0 -> [iv (List.getD [] i4 0)] = [iv (List.getD [] i4 0)])/\(6=6/\3=3 /\ ∀ (i6:Nat),i6 < 3->Decidable.rec (fun (h:¬i6=x0)=>[AV.arr 2 3 fun (p:Nat)=>cSpan ((WayS.mk [] (firstWhn r x0)).whn i6 p)]) (fun (h:i6=x0)=>[AV.arr 2 3 fun (j:Nat)=>if j < (mach r x0).changes.length then [iv ((mach r x0).changes.getD j default).lo,iv ((mach r x0).changes.getD j default).hi] else cSpan ((WayS.mk [] (firstWhn r x0)).whn x0 j)] ++ []) (instDecidableEqNat i6 x0) = [AV.arr 2 3 fun (p:Nat)=>cSpan ((WayS.mk [] (firstWhn r (x0 + 1))).whn i6 p)])/\True)/\true=true)/\True)/\T2) ⟨⟨⟨rfl,rfl⟩,⟨rfl,rfl⟩,⟨rfl,rfl⟩,⟨rfl,rfl⟩,⟨(congrArg iv (o12 hp x0 hx0 h3)),rfl⟩,tv⟩,⟨⟨rfl,rfl⟩,⟨rfl,⟨⟨rfl,rfl,(fun i4=>(fun h5=>rfl))⟩,⟨rfl,rfl,(fun i6=>(fun h7=>(o13 hp x0 hx0 h3 i6 h7)))⟩,tv⟩,rfl⟩,tv⟩,rfl,rfl⟩) (o14 hp x0 hx0 h3) (o15 hp x0 hx0 h3)
 ·refine swp_exit (swp_seq ?_)
  refine sQ (kt:=[1,6]) (kh:=[0,10088]) (q:=tn 3) (st':=ASt.mk [(1,.ptr 0 []),(6,.vec 10088)] [(0,.cells 25 (cRun r)),(10088,.vec 107 19 1 fun (j:Nat)=>List.getD [[.sl 1 0 fun (i:Nat)=>[iv (List.getD [] i 0)],.arr 6 3 fun (m:Nat)=>[.arr 2 3 fun (p:Nat)=>cSpan ((WayS.mk [] (firstWhn r x0)).whn m p)]]] j (TI.za ti107))] 10104) (tp 3) ?_
  refine swp_seq (swp_seq ?_)
  refine sQ (kt:=[6,35,36,37]) (kh:=[10088]) (q:=tn 4) (st':=ASt.mk [(6,.vec 10088),(35,.sl 3 r.found.length fun (i:Nat)=>cFnd (fnd r i)),(36,iv (↑(r.found.length):Int)),(37,iv 0)] [(10088,.vec 107 19 1 fun (j:Nat)=>List.getD [[.sl 1 0 fun (i:Nat)=>[iv (List.getD [] i 0)],.arr 6 3 fun (m:Nat)=>[.arr 2 3 fun (p:Nat)=>cSpan ((WayS.mk [] (firstWhn r x0)).whn m p)]]] j (TI.za ti107))] 10136) (tp 4) ?_
  refine swp_block ?_
  refine swp_loopA (z116_4 r) (eQ hE [] [(5000,.same 10088)] [35,36] [] (((zT (AV.sl 3 r.found.length fun (i:Nat)=>cFnd (fnd r i)))/\(zT (iv (↑(r.found.length):Int)))/\(zN (iv 0) (iv (↑0:Int)))/\zE (some (Src.same 10088))/\True)/\((107=107/\19=19/\1=(waysTo r 0).length /\ ∀ (i9:Nat),i9 < 1->List.getD [[AV.sl 1 0 fun (i:Nat)=>[iv (List.getD [] i 0)],AV.arr 6 3 fun (m:Nat)=>[AV.arr 2 3 fun (p:Nat)=>cSpan ((WayS.mk [] (firstWhn r x0)).whn m p)]]] i9 (TI.za ti107)=cWay ((waysTo r 0).getD i9 default))/\True)/\T2) ⟨⟨⟨rfl,rfl⟩,⟨rfl,rfl⟩,⟨(congrArg iv (o16 hp x0 hx0 h3)),rfl⟩,rfl,tv⟩,⟨⟨rfl,rfl,(o17 hp x0 hx0 h3),(fun i9=>(fun h10=>(o18 hp x0 hx0 h3 i9 h10)))⟩,tv⟩,rfl,rfl⟩) (o19 hp x0 hx0 h3) (fun (x8:Nat) hx8 => ?_)
  refine swp_seq ?_
  refine sQ (kt:=[35,36,37,6,38]) (kh:=[5000]) (q:=True/\True) (st':=ASt.mk [(35,.sl 3 r.found.length fun (i:Nat)=>cFnd (fnd r i)),(36,iv (↑(r.found.length):Int)),(37,iv (x8:Int)),(6,.vec 5000),(38,bv (decide ((x8:Int) < (↑(r.found.length):Int))))] [(5000,.vec 107 19 (waysTo r x8).length fun (j:Nat)=>cWay ((waysTo r x8).getD j default))] 20144) ⟨tv,tv⟩ ?_
  refine swp_seq ?_
  refine swp_cond (decide ((x8:Int) < (↑(r.found.length):Int))) (by kernel_rfl) (fun h11 => ?_) (fun h11 => ?_)
  ·refine swp_skip (swp_seq (swp_block (swp_seq ?_)))
   refine sQ (kt:=[35,36,37,6,8]) (kh:=[5000,20160]) (q:=(0<=(x8:Int)/\(x8:Int) < (↑(r.found.length):Int))/\tn 3) (st':=ASt.mk [(35,.sl 3 r.found.length fun (i:Nat)=>cFnd (fnd r i)),(36,iv (↑(r.found.length):Int)),(37,iv (x8:Int)),(6,.vec 5000),(8,.ptr 20160 [])] [(5000,.vec 107 19 (waysTo r x8).length fun (j:Nat)=>cWay ((waysTo r x8).getD j default)),(20160,.cells 32 (cFnd (fnd r x8)))] 20176) ⟨⟨(o20 hp x0 hx0 h3 x8 hx8 h11),(o21 hp x0 hx0 h3 x8 hx8 h11)⟩,tp 3⟩ ?_
   refine swp_seq ?_
   refine sQ (kt:=[35,36,37,6,8,9]) (kh:=[5000,20160]) (q:=True/\True) (st':=ASt.mk [(35,.sl 3 r.found.length fun (i:Nat)=>cFnd (fnd r i)),(36,iv (↑(r.found.length):Int)),(37,iv (x8:Int)),(6,.vec 5000),(8,.ptr 20160 []),(9,nilv)] [(5000,.vec 107 19 (waysTo r x8).length fun (j:Nat)=>cWay ((waysTo r x8).getD j default)),(20160,.cells 32 (cFnd (fnd r x8)))] 20184) ⟨tv,tv⟩ ?_
   refine swp_seq (swp_seq ?_)
   refine sQ (kt:=[35,36,37,8,9,41,42,43]) (kh:=[20160,5000]) (q:=tn 3) (st':=ASt.mk [(35,.sl 3 r.found.length fun (i:Nat)=>cFnd (fnd r i)),(36,iv (↑(r.found.length):Int)),(37,iv (x8:Int)),(8,.ptr 20160 []),(9,nilv),(41,.vec 5000),(42,iv (↑((waysTo r x8).length):Int)),(43,iv 0)] [(20160,.cells 32 (cFnd (fnd r x8))),(5000,.vec 107 19 (waysTo r x8).length fun (j:Nat)=>cWay ((waysTo r x8).getD j default))] 20208) (tp 3) ?_
   refine swp_block ?_
   refine swp_loopA (z116_2 r x8) (eQ hE [] [(20160,.same 20160),(5000,.same 5000),(5001,.nil)] [35,36,37,42] [20160,5000] (((zT (AV.sl 3 r.found.length fun (i:Nat)=>cFnd (fnd r i)))/\(zT (iv (↑(r.found.length):Int)))/\(zT (iv (x8:Int)))/\(zP 20160)/\zE (some (Src.same 5000))/\(zT (iv (↑((waysTo r x8).length):Int)))/\(zN (iv 0) (iv (↑0:Int)))/\zE (some Src.nil)/\True)/\((zT (OB.cells 32 (cFnd (fnd r x8))))/\(zT (OB.vec 107 19 (waysTo r x8).length fun (j:Nat)=>cWay ((waysTo r x8).getD j default)))/\(acc2 r x8 0).length=0/\True)/\T2) ⟨⟨⟨rfl,rfl⟩,⟨rfl,rfl⟩,⟨rfl,rfl⟩,⟨rfl,rfl⟩,rfl,⟨rfl,rfl⟩,⟨(congrArg iv (o22 hp x0 hx0 h3 x8 hx8 h11)),rfl⟩,rfl,tv⟩,⟨⟨rfl,rfl⟩,⟨rfl,rfl⟩,(o23 hp x0 hx0 h3 x8 hx8 h11),tv⟩,rfl,rfl⟩) (o24 hp x0 hx0 h3 x8 hx8 h11) (fun (x12:Nat) hx12 => ?_)
   refine swp_seq ?_
   refine sQ (kt:=[35,36,37,8,41,42,43,9,44]) (kh:=[20160,5000,5001]) (q:=True/\True) (st':=ASt.mk [(35,.sl 3 r.found.length fun (i:Nat)=>cFnd (fnd r i)),(36,iv (↑(r.found.length):Int)),(37,iv (x8:Int)),(8,.ptr 20160 []),(41,.vec 5000),(42,iv (↑((waysTo r x8).length):Int)),(43,iv (x12:Int)),(9,.vec 5001),(44,bv (decide ((x12:Int) < (↑((waysTo r x8).length):Int))))] [(20160,.cells 32 (cFnd (fnd r x8))),(5000,.vec 107 19 (waysTo r x8).length fun (j:Nat)=>cWay ((waysTo r x8).getD j default)),(5001,.vec 107 19 (acc2 r x8 x12).length fun (j:Nat)=>cWay ((acc2 r x8 x12).getD j default))] 30216) ⟨tv,tv⟩ ?_
   refine swp_seq ?_
   refine swp_cond (decide ((x12:Int) < (↑((waysTo r x8).length):Int))) (by kernel_rfl) (fun h13 => ?_) (fun h13 => ?_)
   ·refine swp_skip (swp_seq (swp_block (swp_seq ?_)))
    refine sQ (kt:=[35,36,37,8,41,42,43,9,11]) (kh:=[20160,5000,5001,30232]) (q:=(0<=(x12:Int)/\(x12:Int) < (↑((waysTo r x8).length):Int))/\(x12 < (waysTo r x8).length/\True)/\tn 2) (st':=ASt.mk [(35,.sl 3 r.found.length fun (i:Nat)=>cFnd (fnd r i)),(36,iv (↑(r.found.length):Int)),(37,iv (x8:Int)),(8,.ptr 20160 []),(41,.vec 5000),(42,iv (↑((waysTo r x8).length):Int)),(43,iv (x12:Int)),(9,.vec 5001),(11,.ptr 30232 [])] [(20160,.cells 32 (cFnd (fnd r x8))),(5000,.vec 107 19 (waysTo r x8).length fun (j:Nat)=>cWay ((waysTo r x8).getD j default)),(5001,.vec 107 19 (acc2 r x8 x12).length fun (j:Nat)=>cWay ((acc2 r x8 x12).getD j default)),(30232,.cells 107 (cWay ((waysTo r x8).getD x12 default)))] 30248) ⟨⟨(o25 hp x0 hx0 h3 x8 hx8 h11 x12 hx12 h13),(o26 hp x0 hx0 h3 x8 hx8 h11 x12 hx12 h13)⟩,⟨(o27 hp x0 hx0 h3 x8 hx8 h11 x12 hx12 h13),tv⟩,tp 2⟩ ?_
    refine swp_seq ?_
    refine sQ (kt:=[35,36,37,8,41,42,43,9,11,48,49,50]) (kh:=[20160,5000,5001,30232]) (q:=tn 4) (st':=ASt.mk [(35,.sl 3 r.found.length fun (i:Nat)=>cFnd (fnd r i)),(36,iv (↑(r.found.length):Int)),(37,iv (x8:Int)),(8,.ptr 20160 []),(41,.vec 5000),(42,iv (↑((waysTo r x8).length):Int)),(43,iv (x12:Int)),(9,.vec 5001),(11,.ptr 30232 []),(48,aInts (fnd r x8).frm),(49,iv (↑((fnd r x8).frm.length):Int)),(50,iv 0)] [(20160,.cells 32 (cFnd (fnd r x8))),(5000,.vec 107 19 (waysTo r x8).length fun (j:Nat)=>cWay ((waysTo r x8).getD j default)),(5001,.vec 107 19 (acc2 r x8 x12).length fun (j:Nat)=>cWay ((acc2 r x8 x12).getD j default)),(30232,.cells 107 (cWay ((waysTo r x8).getD x12 default)))] 30280) (tp 4) ?_
    refine swp_block ?_
    refine swp_loopA (z116_1 r x8 x12) (eQ hE [] [(20160,.same 20160),(5000,.same 5000),(30232,.same 30232),(5002,.same 5001)] [35,36,37,42,43,48,49] [20160,5000,30232] (((zT (AV.sl 3 r.found.length fun (i:Nat)=>cFnd (fnd r i)))/\(zT (iv (↑(r.found.length):Int)))/\(zT (iv (x8:Int)))/\(zP 20160)/\zE (some (Src.same 5000))/\(zT (iv (↑((waysTo r x8).length):Int)))/\(zT (iv (x12:Int)))/\(zP 30232)/\(zT (aInts (fnd r x8).frm))/\(zT (iv (↑((fnd r x8).frm.length):Int)))/\(zN (iv 0) (iv (↑0:Int)))/\zE (some (Src.same 5001))/\True)/\((zT (OB.cells 32 (cFnd (fnd r x8))))/\(zT (OB.vec 107 19 (waysTo r x8).length fun (j:Nat)=>cWay ((waysTo r x8).getD j default)))/\(zT (OB.cells 107 (cWay ((waysTo r x8).getD x12 default))))/\(107=107/\19=19/\(acc2 r x8 x12).length=(acc3 r x8 x12 0).length /\ ∀ (i15:Nat),i15 < (acc2 r x8 x12).length->cWay ((acc2 r x8 x12).getD i15 default)=cWay ((acc3 r x8 x12 0).getD i15 default))/\True)/\T2) ⟨⟨⟨rfl,rfl⟩,⟨rfl,rfl⟩,⟨rfl,rfl⟩,⟨rfl,rfl⟩,rfl,⟨rfl,rfl⟩,⟨rfl,rfl⟩,⟨rfl,rfl⟩,⟨rfl,rfl⟩,⟨rfl,rfl⟩,⟨(congrArg iv (o28 hp x0 hx0 h3 x8 hx8 h11 x12 hx12 h13)),rfl⟩,rfl,tv⟩,⟨⟨rfl,rfl⟩,⟨rfl,rfl⟩,⟨rfl,rfl⟩,⟨rfl,rfl,(o29 hp x0 hx0 h3 x8 hx8 h11 x12 hx12 h13),(fun i15=>(fun h16=>(o30 hp x0 hx0 h3 x8 hx8 h11 x12 hx12 h13 i15 h16)))⟩,tv⟩,rfl,rfl⟩) (o31 hp x0 hx0 h3 x8 hx8 h11 x12 hx12 h13) (fun (x14:Nat) hx14 => ?_)
    refine swp_seq ?_
    refine sQ (kt:=[35,36,37,8,41,42,43,11,48,49,50,9,51]) (kh:=[20160,5000,30232,5002]) (q:=True/\True) (st':=ASt.mk [(35,.sl 3 r.found.length fun (i:Nat)=>cFnd (fnd r i)),(36,iv (↑(r.found.length):Int)),(37,iv (x8:Int)),(8,.ptr 20160 []),(41,.vec 5000),(42,iv (↑((waysTo r x8).length):Int)),(43,iv (x12:Int)),(11,.ptr 30232 []),(48,aInts (fnd r x8).frm),(49,iv (↑((fnd r x8).frm.length):Int)),(50,iv (x14:Int)),(9,.vec 5002),(51,bv (decide ((x14:Int) < (↑((fnd r x8).frm.length):Int))))] [(20160,.cells 32 (cFnd (fnd r x8))),(5000,.vec 107 19 (waysTo r x8).length fun (j:Nat)=>cWay ((waysTo r x8).getD j default)),(30232,.cells 107 (cWay ((waysTo r x8).getD x12 default))),(5002,.vec 107 19 (acc3 r x8 x12 x14).length fun (j:Nat)=>cWay ((acc3 r x8 x12 x14).getD j default))] 40288) ⟨tv,tv⟩ ?_
    refine swp_seq ?_
    refine swp_cond (decide ((x14:Int) < (↑((fnd r x8).frm.length):Int))) (by kernel_rfl) (fun h17 => ?_) (fun h17 => ?_)
    ·refine swp_skip (swp_seq (swp_block (swp_seq ?_)))
     refine sQ (kt:=[35,36,37,8,41,42,43,11,48,49,50,9,13]) (kh:=[20160,5000,30232,5002]) (q:=(0<=(x14:Int)/\(x14:Int) < (↑((fnd r x8).frm.length):Int))/\tn 2) (st':=ASt.mk [(35,.sl 3 r.found.length fun (i:Nat)=>cFnd (fnd r i)),(36,iv (↑(r.found.length):Int)),(37,iv (x8:Int)),(8,.ptr 20160 []),(41,.vec 5000),(42,iv (↑((waysTo r x8).length):Int)),(43,iv (x12:Int)),(11,.ptr 30232 []),(48,aInts (fnd r x8).frm),(49,iv (↑((fnd r x8).frm.length):Int)),(50,iv (x14:Int)),(9,.vec 5002),(13,iv ((fnd r x8).frm.getD x14 0))] [(20160,.cells 32 (cFnd (fnd r x8))),(5000,.vec 107 19 (waysTo r x8).length fun (j:Nat)=>cWay ((waysTo r x8).getD j default)),(30232,.cells 107 (cWay ((waysTo r x8).getD x12 default))),(5002,.vec 107 19 (acc3 r x8 x12 x14).length fun (j:Nat)=>cWay ((acc3 r x8 x12 x14).getD j default))] 40312) ⟨⟨(o32 hp x0 hx0 h3 x8 hx8 h11 x12 hx12 h13 x14 hx14 h17),(o33 hp x0 hx0 h3 x8 hx8 h11 x12 hx12 h13 x14 hx14 h17)⟩,tp 2⟩ ?_
     refine swp_seq ?_
     refine sQ (kt:=[35,36,37,8,41,42,43,11,48,49,50,9,13,14]) (kh:=[20160,5000,30232,5002,40432,40400]) (q:=True/\True/\True/\True/\True/\True/\True/\True/\(zE (↑(((waysTo r x8).getD x12 default).frm.length):Int)/\zE (↑(((waysTo r x8).getD x12 default).frm.length):Int))/\True/\True/\(((waysTo r x8).getD x12 default).frm.length + 1<=65536/\0 < 1)/\tn 5) (st':=ASt.mk [(35,.sl 3 r.found.length fun (i:Nat)=>cFnd (fnd r i)),(36,iv (↑(r.found.length):Int)),(37,iv (x8:Int)),(8,.ptr 20160 []),(41,.vec 5000),(42,iv (↑((waysTo r x8).length):Int)),(43,iv (x12:Int)),(11,.ptr 30232 []),(48,aInts (fnd r x8).frm),(49,iv (↑((fnd r x8).frm.length):Int)),(50,iv (x14:Int)),(9,.vec 5002),(13,iv ((fnd r x8).frm.getD x14 0)),(14,.ptr 40432 [])] [(20160,.cells 32 (cFnd (fnd r x8))),(5000,.vec 107 19 (waysTo r x8).length fun (j:Nat)=>cWay ((waysTo r x8).getD j default)),(30232,.cells 107 (cWay ((waysTo r x8).getD x12 default))),(5002,.vec 107 19 (acc3 r x8 x12 x14).length fun (j:Nat)=>cWay ((acc3 r x8 x12 x14).getD j default)),(40432,.cells 107 [.vec 40400,.arr 6 3 fun (m:Nat)=>[.arr 2 3 fun (p:Nat)=>cSpan (((waysTo r x8).getD x12 default).whn m p)]]),(40400,.vec 3 1 (((waysTo r x8).getD x12 default).frm.length + 1) (catF ((waysTo r x8).getD x12 default).frm.length (fun (i:Nat)=>[iv (((waysTo r x8).getD x12 default).frm.getD i 0)]) fun (j:Nat)=>List.getD [[iv ((fnd r x8).frm.getD x14 0)]] j (TI.za ti3)))] 40448) ⟨tv,tv,tv,tv,tv,tv,tv,tv,⟨rfl,rfl⟩,tv,tv,⟨(o34 hp x0 hx0 h3 x8 hx8 h11 x12 hx12 h13 x14 hx14 h17),(by decide)⟩,tp 5⟩ ?_
     refine swp_seq ?_
     refine swp_ent (eQ (st2:=ASt.mk [(35,AV.sl 3 r.found.length fun (i:Nat)=>cFnd (fnd r i)),(36,iv (↑(r.found.length):Int)),(37,iv (x8:Int)),(8,AV.ptr 20160 []),(41,AV.vec 5000),(42,iv (↑((waysTo r x8).length):Int)),(43,iv (x12:Int)),(11,AV.ptr 30232 []),(48,aInts (fnd r x8).frm),(49,iv (↑((fnd r x8).frm.length):Int)),(50,iv (x14:Int)),(9,AV.vec 5002),(13,iv ((fnd r x8).frm.getD x14 0)),(14,AV.ptr 40432 [])] [(40432,OB.cells 107 (cWay (WayS.mk (((waysTo r x8).getD x12 default).frm ++ [(fnd r x8).frm.getD x14 0]) ((waysTo r x8).getD x12 default).whn))),(20160,OB.cells 32 (cFnd (fnd r x8))),(5000,OB.vec 107 19 (waysTo r x8).length fun (j:Nat)=>cWay ((waysTo r x8).getD j default)),(30232,OB.cells 107 (cWay ((waysTo r x8).getD x12 default))),(5002,OB.vec 107 19 (acc3 r x8 x12 x14).length fun (j:Nat)=>cWay ((acc3 r x8 x12 x14).getD j default))] 40448) hE [40400] [(20160,.same 20160),(5000,.same 5000),(30232,.same 30232),(5002,.same 5002),(40432,.same 40432)] [35,36,37,42,43,48,49,50,13] [20160,5000,30232,5002] (((zT (AV.sl 3 r.found.length fun (i:Nat)=>cFnd (fnd r i)))/\(zT (iv (↑(r.found.length):Int)))/\(zT (iv (x8:Int)))/\(zP 20160)/\zE (some (Src.same 5000))/\(zT (iv (↑((waysTo r x8).length):Int)))/\(zT (iv (x12:Int)))/\(zP 30232)/\(zT (aInts (fnd r x8).frm))/\(zT (iv (↑((fnd r x8).frm.length):Int)))/\(zT (iv (x14:Int)))/\zE (some (Src.same 5002))/\(zT (iv ((fnd r x8).frm.getD x14 0)))/\(zP 40432)/\True)/\((107=107/\((1=1/\((waysTo r x8).getD x12 default).frm.length + 1=(((waysTo r x8).getD x12 default).frm ++ [(fnd r x8).frm.getD x14 0]).length /\ ∀ (i18:Nat),i18 < (((waysTo r x8).getD x12 default).frm ++ [(fnd r x8).frm.getD x14 0]).length->catF ((waysTo r x8).getD x12 default).frm.length (fun (i:Nat)=>[iv (((waysTo r x8).getD x12 default).frm.getD i 0)]) (fun (j:Nat)=>List.getD [[iv ((fnd r x8).frm.getD x14 0)]] j (TI.za ti3)) i18 = [iv ((((waysTo r x8).getD x12 default).frm ++ [(fnd r x8).frm.getD x14 0]).getD i18 0)])/\(6=6/\3=3 /\ ∀ (i20:Nat),i20 < 3 -> [AV.arr 2 3 fun (p:Nat)=>cSpan (((waysTo r x8).getD x12 default).whn i20 p)] = [AV.arr 2 3 fun (p:Nat)=>cSpan ((WayS.mk (((waysTo r x8).getD x12 default).frm ++ [(fnd r x8).frm.getD x14 0]) ((waysTo r x8).getD x12 default).whn).whn i20 p)])/\True)/\true=true)/\(zT (OB.cells 32 (cFnd (fnd r x8))))/\(zT (OB.vec 107 19 (waysTo r x8).length fun (j:Nat)=>cWay ((waysTo r x8).getD j default)))/\(zT (OB.cells 107 (cWay ((waysTo r x8).getD x12 default))))/\(zT (OB.vec 107 19 (acc3 r x8 x12 x14).length fun (j:Nat)=>cWay ((acc3 r x8 x12 x14).getD j default)))/\True)/\T2) ⟨⟨⟨rfl,rfl⟩,⟨rfl,rfl⟩,⟨rfl,rfl⟩,⟨rfl,rfl⟩,rfl,⟨rfl,rfl⟩,⟨rfl,rfl⟩,⟨rfl,rfl⟩,⟨rfl,rfl⟩,⟨rfl,rfl⟩,⟨rfl,rfl⟩,rfl,⟨rfl,rfl⟩,⟨rfl,rfl⟩,tv⟩,⟨⟨rfl,⟨⟨rfl,(o35 hp x0 hx0 h3 x8 hx8 h11 x12 hx12 h13 x14 hx14 h17),(fun i18=>(fun h19=>(o36 hp x0 hx0 h3 x8 hx8 h11 x12 hx12 h13 x14 hx14 h17 i18 h19)))⟩,⟨rfl,rfl,(fun i20=>(fun h21=>rfl))⟩,tv⟩,rfl⟩,⟨rfl,rfl⟩,⟨rfl,rfl⟩,⟨rfl,rfl⟩,⟨rfl,rfl⟩,tv⟩,rfl,rfl⟩) ?_
     refine sC (cs:=[(3,CallSpec.eq (c116 r x8 x12 x14) [true,true,false])]) (kt:=[35,36,37,8,41,42,43,11,48,49,50,9,14,72]) (kh:=[20160,5000,30232,5002,40432]) (q:=True/\True/\True/\((zE (AV.ptr 40432 [PS.fld 1])/\zE (AV.agg (cFnd (fnd r x8)))/\iv ((fnd r x8).frm.getD x14 0)=iv (↑(((fnd r x8).frm.getD x14 0).toNat):Int)/\True)/\Triple Try.prog 139 (c116 r x8 x12 x14)/\(((fnd r x8).frm.getD x14 0).toNat < 3/\(fnd r x8).new.length<=3/\0<=(fnd r x8).minute/\(fnd r x8).minute<=1000)/\(zE (some (OB.cells 107 (cWay (WayS.mk (((waysTo r x8).getD x12 default).frm ++ [(fnd r x8).frm.getD x14 0]) ((waysTo r x8).getD x12 default).whn))))/\True) /\ ∀ (i22:Env),True)/\True) (st':=ASt.mk [(35,.sl 3 r.found.length fun (i:Nat)=>cFnd (fnd r i)),(36,iv (↑(r.found.length):Int)),(37,iv (x8:Int)),(8,.ptr 20160 []),(41,.vec 5000),(42,iv (↑((waysTo r x8).length):Int)),(43,iv (x12:Int)),(11,.ptr 30232 []),(48,aInts (fnd r x8).frm),(49,iv (↑((fnd r x8).frm.length):Int)),(50,iv (x14:Int)),(9,.vec 5002),(14,.ptr 40432 []),(72,bv (see (fnd r x8) ((fnd r x8).frm.getD x14 0).toNat ((waysTo r x8).getD x12 default).whn).1)] [(20160,.cells 32 (cFnd (fnd r x8))),(5000,.vec 107 19 (waysTo r x8).length fun (j:Nat)=>cWay ((waysTo r x8).getD j default)),(30232,.cells 107 (cWay ((waysTo r x8).getD x12 default))),(5002,.vec 107 19 (acc3 r x8 x12 x14).length fun (j:Nat)=>cWay ((acc3 r x8 x12 x14).getD j default)),(40432,.cells 107 (cWay (WayS.mk (((waysTo r x8).getD x12 default).frm ++ [(fnd r x8).frm.getD x14 0]) (see (fnd r x8) ((fnd r x8).frm.getD x14 0).toNat ((waysTo r x8).getD x12 default).whn).2)))] 40480) ⟨tv,tv,tv,⟨⟨rfl,rfl,(congrArg iv (o37 hp x0 hx0 h3 x8 hx8 h11 x12 hx12 h13 x14 hx14 h17)),tv⟩,(t139 _ _ _ _ _),⟨(o38 hp x0 hx0 h3 x8 hx8 h11 x12 hx12 h13 x14 hx14 h17),(o39 hp x0 hx0 h3 x8 hx8 h11 x12 hx12 h13 x14 hx14 h17),(o40 hp x0 hx0 h3 x8 hx8 h11 x12 hx12 h13 x14 hx14 h17),(o41 hp x0 hx0 h3 x8 hx8 h11 x12 hx12 h13 x14 hx14 h17)⟩,⟨rfl,tv⟩,(fun i22=>tv)⟩,tv⟩ ?_
     refine swp_cond (see (fnd r x8) ((fnd r x8).frm.getD x14 0).toNat ((waysTo r x8).getD x12 default).whn).1 (by kernel_rfl) (fun h23 => ?_) (fun h23 => ?_)
     ·refine sQ (kt:=[35,36,37,8,41,42,43,11,48,49,50,9]) (kh:=[20160,5000,30232,40504]) (q:=True/\True/\True/\(acc3 r x8 x12 x14).length + 1<=65536/\True/\True) (st':=ASt.mk [(35,.sl 3 r.found.length fun (i:Nat)=>cFnd (fnd r i)),(36,iv (↑(r.found.length):Int)),(37,iv (x8:Int)),(8,.ptr 20160 []),(41,.vec 5000),(42,iv (↑((waysTo r x8).length):Int)),(43,iv (x12:Int)),(11,.ptr 30232 []),(48,aInts (fnd r x8).frm),(49,iv (↑((fnd r x8).frm.length):Int)),(50,iv (x14:Int)),(9,.vec 40504)] [(20160,.cells 32 (cFnd (fnd r x8))),(5000,.vec 107 19 (waysTo r x8).length fun (j:Nat)=>cWay ((waysTo r x8).getD j default)),(30232,.cells 107 (cWay ((waysTo r x8).getD x12 default))),(40504,.vec 107 19 ((acc3 r x8 x12 x14).length + 1) (catF (acc3 r x8 x12 x14).length (fun (j:Nat)=>cWay ((acc3 r x8 x12 x14).getD j default)) fun (j:Nat)=>List.getD [[.sl 1 (((waysTo r x8).getD x12 default).frm ++ [(fnd r x8).frm.getD x14 0]).length fun (i:Nat)=>[iv ((((waysTo r x8).getD x12 default).frm ++ [(fnd r x8).frm.getD x14 0]).getD i 0)],.arr 6 3 fun (m:Nat)=>[.arr 2 3 fun (p:Nat)=>cSpan ((WayS.mk (((waysTo r x8).getD x12 default).frm ++ [(fnd r x8).frm.getD x14 0]) (see (fnd r x8) ((fnd r x8).frm.getD x14 0).toNat ((waysTo r x8).getD x12 default).whn).2).whn m p)]]] j (TI.za ti107)))] 40520) ⟨tv,tv,tv,(o42 hp x0 hx0 h3 x8 hx8 h11 x12 hx12 h13 x14 hx14 h17 h23),tv,tv⟩ ?_
      refine sQ (kt:=[35,36,37,8,41,42,43,11,48,49,50,9]) (kh:=[20160,5000,30232,40504]) (q:=inI ((x14:Int) + 1)/\True/\True) (st':=ASt.mk [(35,.sl 3 r.found.length fun (i:Nat)=>cFnd (fnd r i)),(36,iv (↑(r.found.length):Int)),(37,iv (x8:Int)),(8,.ptr 20160 []),(41,.vec 5000),(42,iv (↑((waysTo r x8).length):Int)),(43,iv (x12:Int)),(11,.ptr 30232 []),(48,aInts (fnd r x8).frm),(49,iv (↑((fnd r x8).frm.length):Int)),(50,iv ((x14:Int) + 1)),(9,.vec 40504)] [(20160,.cells 32 (cFnd (fnd r x8))),(5000,.vec 107 19 (waysTo r x8).length fun (j:Nat)=>cWay ((waysTo r x8).getD j default)),(30232,.cells 107 (cWay ((waysTo r x8).getD x12 default))),(40504,.vec 107 19 ((acc3 r x8 x12 x14).length + 1) (catF (acc3 r x8 x12 x14).length (fun (j:Nat)=>cWay ((acc3 r x8 x12 x14).getD j default)) fun (j:Nat)=>List.getD [[.sl 1 (((waysTo r x8).getD x12 default).frm ++ [(fnd r x8).frm.getD x14 0]).length fun (i:Nat)=>[iv ((((waysTo r x8).getD x12 default).frm ++ [(fnd r x8).frm.getD x14 0]).getD i 0)],.arr 6 3 fun (m:Nat)=>[.arr 2 3 fun (p:Nat)=>cSpan ((WayS.mk (((waysTo r x8).getD x12 default).frm ++ [(fnd r x8).frm.getD x14 0]) (see (fnd r x8) ((fnd r x8).frm.getD x14 0).toNat ((waysTo r x8).getD x12 default).whn).2).whn m p)]]] j (TI.za ti107)))] 40536) ⟨(o43 hp x0 hx0 h3 x8 hx8 h11 x12 hx12 h13 x14 hx14 h17 h23),tv,tv⟩ ?_
      exact loop_next (z116_1 r x8 x12) x14 (eQ hE [] [(20160,.same 20160),(5000,.same 5000),(30232,.same 30232),(5002,.same 40504)] [35,36,37,42,43,48,49] [20160,5000,30232] (((zT (AV.sl 3 r.found.length fun (i:Nat)=>cFnd (fnd r i)))/\(zT (iv (↑(r.found.length):Int)))/\(zT (iv (x8:Int)))/\(zP 20160)/\zE (some (Src.same 5000))/\(zT (iv (↑((waysTo r x8).length):Int)))/\(zT (iv (x12:Int)))/\(zP 30232)/\(zT (aInts (fnd r x8).frm))/\(zT (iv (↑((fnd r x8).frm.length):Int)))/\(zN (iv ((x14:Int) + 1)) (iv (↑(x14 + 1):Int)))/\zE (some (Src.same 40504))/\True)/\((zT (OB.cells 32 (cFnd (fnd r x8))))/\(zT (OB.vec 107 19 (waysTo r x8).length fun (j:Nat)=>cWay ((waysTo r x8).getD j default)))/\(zT (OB.cells 107 (cWay ((waysTo r x8).getD x12 default))))/\(107=107/\19=19/\(acc3 r x8 x12 x14).length + 1=(acc3 r x8 x12 (x14 + 1)).length /\ ∀ (i24:Nat),i24 < (acc3 r x8 x12 x14).length + 1->catF (acc3 r x8 x12 x14).length (fun (j:Nat)=>cWay ((acc3 r x8 x12 x14).getD j default)) (fun (j:Nat)=>List.getD [[AV.sl 1 (((waysTo r x8).getD x12 default).frm ++ [(fnd r x8).frm.getD x14 0]).length fun (i:Nat)=>[iv ((((waysTo r x8).getD x12 default).frm ++ [(fnd r x8).frm.getD x14 0]).getD i 0)],AV.arr 6 3 fun (m:Nat)=>[AV.arr 2 3 fun (p:Nat)=>cSpan ((WayS.mk (((waysTo r x8).getD x12 default).frm ++ [(fnd r x8).frm.getD x14 0]) (see (fnd r x8) ((fnd r x8).frm.getD x14 0).toNat ((waysTo r x8).getD x12 default).whn).2).whn m p)]]] j (TI.za ti107)) i24=cWay ((acc3 r x8 x12 (x14 + 1)).getD i24 default))/\True)/\T2) ⟨⟨⟨rfl,rfl⟩,⟨rfl,rfl⟩,⟨rfl,rfl⟩,⟨rfl,rfl⟩,rfl,⟨rfl,rfl⟩,⟨rfl,rfl⟩,⟨rfl,rfl⟩,⟨rfl,rfl⟩,⟨rfl,rfl⟩,⟨(congrArg iv (o44 hp x0 hx0 h3 x8 hx8 h11 x12 hx12 h13 x14 hx14 h17 h23)),rfl⟩,rfl,tv⟩,⟨⟨rfl,rfl⟩,⟨rfl,rfl⟩,⟨rfl,rfl⟩,⟨rfl,rfl,(o45 hp x0 hx0 h3 x8 hx8 h11 x12 hx12 h13 x14 hx14 h17 h23),(fun i24=>(fun h25=>(o46 hp x0 hx0 h3 x8 hx8 h11 x12 hx12 h13 x14 hx14 h17 h23 i24 h25)))⟩,tv⟩,rfl,rfl⟩) (o47 hp x0 hx0 h3 x8 hx8 h11 x12 hx12 h13 x14 hx14 h17 h23) (o48 hp x0 hx0 h3 x8 hx8 h11 x12 hx12 h13 x14 hx14 h17 h23)
     ·refine swp_skip ?_
      refine sQ (kt:=[35,36,37,8,41,42,43,11,48,49,50,9]) (kh:=[20160,5000,30232,5002]) (q:=inI ((x14:Int) + 1)/\True/\True) (st':=ASt.mk [(35,.sl 3 r.found.length fun (i:Nat)=>cFnd (fnd r i)),(36,iv (↑(r.found.length):Int)),(37,iv (x8:Int)),(8,.ptr 20160 []),(41,.vec 5000),(42,iv (↑((waysTo r x8).length):Int)),(43,iv (x12:Int)),(11,.ptr 30232 []),(48,aInts (fnd r x8).frm),(49,iv (↑((fnd r x8).frm.length):Int)),(50,iv ((x14:Int) + 1)),(9,.vec 5002)] [(20160,.cells 32 (cFnd (fnd r x8))),(5000,.vec 107 19 (waysTo r x8).length fun (j:Nat)=>cWay ((waysTo r x8).getD j default)),(30232,.cells 107 (cWay ((waysTo r x8).getD x12 default))),(5002,.vec 107 19 (acc3 r x8 x12 x14).length fun (j:Nat)=>cWay ((acc3 r x8 x12 x14).getD j default))] 40496) ⟨(o49 hp x0 hx0 h3 x8 hx8 h11 x12 hx12 h13 x14 hx14 h17 h23),tv,tv⟩ ?_
      exact loop_next (z116_1 r x8 x12) x14 (eQ hE [] [(20160,.same 20160),(5000,.same 5000),(30232,.same 30232),(5002,.same 5002)] [35,36,37,42,43,48,49] [20160,5000,30232] (((zT (AV.sl 3 r.found.length fun (i:Nat)=>cFnd (fnd r i)))/\(zT (iv (↑(r.found.length):Int)))/\(zT (iv (x8:Int)))/\(zP 20160)/\zE (some (Src.same 5000))/\(zT (iv (↑((waysTo r x8).length):Int)))/\(zT (iv (x12:Int)))/\(zP 30232)/\(zT (aInts (fnd r x8).frm))/\(zT (iv (↑((fnd r x8).frm.length):Int)))/\(zN (iv ((x14:Int) + 1)) (iv (↑(x14 + 1):Int)))/\zE (some (Src.same 5002))/\True)/\((zT (OB.cells 32 (cFnd (fnd r x8))))/\(zT (OB.vec 107 19 (waysTo r x8).length fun (j:Nat)=>cWay ((waysTo r x8).getD j default)))/\(zT (OB.cells 107 (cWay ((waysTo r x8).getD x12 default))))/\(107=107/\19=19/\(acc3 r x8 x12 x14).length=(acc3 r x8 x12 (x14 + 1)).length /\ ∀ (i26:Nat),i26 < (acc3 r x8 x12 x14).length->cWay ((acc3 r x8 x12 x14).getD i26 default)=cWay ((acc3 r x8 x12 (x14 + 1)).getD i26 default))/\True)/\T2) ⟨⟨⟨rfl,rfl⟩,⟨rfl,rfl⟩,⟨rfl,rfl⟩,⟨rfl,rfl⟩,rfl,⟨rfl,rfl⟩,⟨rfl,rfl⟩,⟨rfl,rfl⟩,⟨rfl,rfl⟩,⟨rfl,rfl⟩,⟨(congrArg iv (o50 hp x0 hx0 h3 x8 hx8 h11 x12 hx12 h13 x14 hx14 h17 h23)),rfl⟩,rfl,tv⟩,⟨⟨rfl,rfl⟩,⟨rfl,rfl⟩,⟨rfl,rfl⟩,⟨rfl,rfl,(o51 hp x0 hx0 h3 x8 hx8 h11 x12 hx12 h13 x14 hx14 h17 h23),(fun i26=>(fun h27=>(o52 hp x0 hx0 h3 x8 hx8 h11 x12 hx12 h13 x14 hx14 h17 h23 i26 h27)))⟩,tv⟩,rfl,rfl⟩) (o53 hp x0 hx0 h3 x8 hx8 h11 x12 hx12 h13 x14 hx14 h17 h23) (o54 hp x0 hx0 h3 x8 hx8 h11 x12 hx12 h13 x14 hx14 h17 h23)
    ·refine swp_exit ?_
     refine sQ (kt:=[35,36,37,8,41,42,43,9]) (kh:=[20160,5000,5002]) (q:=inI ((x12:Int) + 1)/\True/\True) (st':=ASt.mk [(35,.sl 3 r.found.length fun (i:Nat)=>cFnd (fnd r i)),(36,iv (↑(r.found.length):Int)),(37,iv (x8:Int)),(8,.ptr 20160 []),(41,.vec 5000),(42,iv (↑((waysTo r x8).length):Int)),(43,iv ((x12:Int) + 1)),(9,.vec 5002)] [(20160,.cells 32 (cFnd (fnd r x8))),(5000,.vec 107 19 (waysTo r x8).length fun (j:Nat)=>cWay ((waysTo r x8).getD j default)),(5002,.vec 107 19 (acc3 r x8 x12 x14).length fun (j:Nat)=>cWay ((acc3 r x8 x12 x14).getD j default))] 40304) ⟨(o55 hp x0 hx0 h3 x8 hx8 h11 x12 hx12 h13 x14 hx14 h17),tv,tv⟩ ?_
     exact loop_next (z116_2 r x8) x12 (eQ hE [] [(20160,.same 20160),(5000,.same 5000),(5001,.same 5002)] [35,36,37,42] [20160,5000] (((zT (AV.sl 3 r.found.length fun (i:Nat)=>cFnd (fnd r i)))/\(zT (iv (↑(r.found.length):Int)))/\(zT (iv (x8:Int)))/\(zP 20160)/\zE (some (Src.same 5000))/\(zT (iv (↑((waysTo r x8).length):Int)))/\(zN (iv ((x12:Int) + 1)) (iv (↑(x12 + 1):Int)))/\zE (some (Src.same 5002))/\True)/\((zT (OB.cells 32 (cFnd (fnd r x8))))/\(zT (OB.vec 107 19 (waysTo r x8).length fun (j:Nat)=>cWay ((waysTo r x8).getD j default)))/\(107=107/\19=19/\(acc3 r x8 x12 x14).length=(acc2 r x8 (x12 + 1)).length /\ ∀ (i28:Nat),i28 < (acc3 r x8 x12 x14).length->cWay ((acc3 r x8 x12 x14).getD i28 default)=cWay ((acc2 r x8 (x12 + 1)).getD i28 default))/\True)/\T2) ⟨⟨⟨rfl,rfl⟩,⟨rfl,rfl⟩,⟨rfl,rfl⟩,⟨rfl,rfl⟩,rfl,⟨rfl,rfl⟩,⟨(congrArg iv (o56 hp x0 hx0 h3 x8 hx8 h11 x12 hx12 h13 x14 hx14 h17)),rfl⟩,rfl,tv⟩,⟨⟨rfl,rfl⟩,⟨rfl,rfl⟩,⟨rfl,rfl,(o57 hp x0 hx0 h3 x8 hx8 h11 x12 hx12 h13 x14 hx14 h17),(fun i28=>(fun h29=>(o58 hp x0 hx0 h3 x8 hx8 h11 x12 hx12 h13 x14 hx14 h17 i28 h29)))⟩,tv⟩,rfl,rfl⟩) (o59 hp x0 hx0 h3 x8 hx8 h11 x12 hx12 h13 x14 hx14 h17) (o60 hp x0 hx0 h3 x8 hx8 h11 x12 hx12 h13 x14 hx14 h17)
   ·refine swp_exit ?_
    refine sQ (kt:=[35,36,37,6]) (kh:=[5001]) (q:=tn 2) (st':=ASt.mk [(35,.sl 3 r.found.length fun (i:Nat)=>cFnd (fnd r i)),(36,iv (↑(r.found.length):Int)),(37,iv (x8:Int)),(6,.vec 5001)] [(5001,.vec 107 19 (acc2 r x8 x12).length fun (j:Nat)=>cWay ((acc2 r x8 x12).getD j default))] 30232) (tp 2) ?_
    refine sQ (kt:=[35,36,37,6]) (kh:=[5001]) (q:=inI ((x8:Int) + 1)/\True/\True) (st':=ASt.mk [(35,.sl 3 r.found.length fun (i:Nat)=>cFnd (fnd r i)),(36,iv (↑(r.found.length):Int)),(37,iv ((x8:Int) + 1)),(6,.vec 5001)] [(5001,.vec 107 19 (acc2 r x8 x12).length fun (j:Nat)=>cWay ((acc2 r x8 x12).getD j default))] 30248) ⟨(o61 hp x0 hx0 h3 x8 hx8 h11 x12 hx12 h13),tv,tv⟩ ?_
    exact loop_next (z116_4 r) x8 (eQ hE [] [(5000,.same 5001)] [35,36] [] (((zT (AV.sl 3 r.found.length fun (i:Nat)=>cFnd (fnd r i)))/\(zT (iv (↑(r.found.length):Int)))/\(zN (iv ((x8:Int) + 1)) (iv (↑(x8 + 1):Int)))/\zE (some (Src.same 5001))/\True)/\((107=107/\19=19/\(acc2 r x8 x12).length=(waysTo r (x8 + 1)).length /\ ∀ (i30:Nat),i30 < (acc2 r x8 x12).length->cWay ((acc2 r x8 x12).getD i30 default)=cWay ((waysTo r (x8 + 1)).getD i30 default))/\True)/\T2) ⟨⟨⟨rfl,rfl⟩,⟨rfl,rfl⟩,⟨(congrArg iv (o62 hp x0 hx0 h3 x8 hx8 h11 x12 hx12 h13)),rfl⟩,rfl,tv⟩,⟨⟨rfl,rfl,(o63 hp x0 hx0 h3 x8 hx8 h11 x12 hx12 h13),(fun i30=>(fun h31=>(o64 hp x0 hx0 h3 x8 hx8 h11 x12 hx12 h13 i30 h31)))⟩,tv⟩,rfl,rfl⟩) (o65 hp x0 hx0 h3 x8 hx8 h11 x12 hx12 h13) (o66 hp x0 hx0 h3 x8 hx8 h11 x12 hx12 h13)
  ·refine swp_exit (swp_seq ?_)
   refine sQ (kt:=[2]) (kh:=[5000]) (q:=tn 2) (st':=ASt.mk [(2,.vec 5000)] [(5000,.vec 107 19 (waysTo r x8).length fun (j:Nat)=>cWay ((waysTo r x8).getD j default))] 20160) (tp 2) ?_
   refine swp_ret ?_
   exact rQ [5000] ((True/\True)/\(19=19/\(waysTo r x8).length=(waysOf r).length /\ ∀ (i32:Nat),i32 < (waysOf r).length->cWay ((waysTo r x8).getD i32 default)=cWay ((waysOf r).getD i32 default))/\T3) ⟨⟨tv,tv⟩,⟨rfl,(o67 hp x0 hx0 h3 x8 hx8 h11),(fun i32=>(fun h33=>(o68 hp x0 hx0 h3 x8 hx8 h11 i32 h33)))⟩,rfl,rfl,rfl⟩
theorem arr_first (r:Run) (x i:Nat) :
  (if i=x then [AV.arr 2 3 fun j=>if j < (mach r x).changes.length then [iv ((mach r x).changes.getD j default).lo,iv ((mach r x).changes.getD j default).hi] else cSpan (firstWhn r x x j)] ++ [] else [AV.arr 2 3 fun p=>cSpan (firstWhn r x i p)]) = [AV.arr 2 3 fun p=>cSpan (firstWhn r (x + 1) i p)]:=by
 split
 ·rename_i e
  rw [List.append_nil]
  refine congrArg (fun g=>[AV.arr 2 3 g]) (funext fun j => ?_)
  rw [firstWhn_succ r x _ rfl i j e]
  split <;> rfl
 ·rename_i e
  refine congrArg (fun g=>[AV.arr 2 3 g]) (funext fun j => ?_)
  rw [firstWhn_other r x i j e]
theorem t116 (r:Run):Triple Try.prog 116 (s116 r):=by
 apply w116
 case o6 | o7 | o8=>intro hp x hx hl; have:=(ok_of hp).machines; simp only [decide_eq_true_eq] at hl; omega
 case o9=>intro hp x hx hl; have h1:=(ok_of hp).plates; simp only [decide_eq_true_eq] at hl; have:=(ok_of hp).mach x (by omega); omega
 case o10=>intro hp x hx hl; have h1:=(ok_of hp).plates; simp only [decide_eq_true_eq] at hl; have:=(ok_of hp).mach x (by omega); omega
 case o11=>intro hp x hx hl; have:=(ok_of hp).machines; simp only [inI]; omega
 case o13=>intro hp x hx hl i hi; exact arr_first r x i
 case o18 =>
  intro hp x hx hl i hi
  simp only [decide_eq_false_iff_not] at hl
  have e:x=r.machines.length:=by omega
  have:i=0:=by omega
  subst this; subst e; rfl
 case o29=>(repeat intro _); rw [acc3_zero]
 case o30=>(repeat intro _); rw [acc3_zero]
 case o34 =>
  intro hp x hx hl n hn hnl i hi hil k hk hkl
  have:=(ok_of hp).found
  simp only [decide_eq_true_eq] at hil
  rw [waysTo_frm n _ (getD_mem _ default (by omega))]; omega
 case o36=>intro hp x hx hl n hn hnl i hi hil k hk hkl j hj; exact catF_one _ _ 0 (fun z=>[iv z]) rfl (fun _ _=>rfl) rfl (by simpa using hj)
 case o37=>intro hp x hx hl n hn hnl i hi hil k hk hkl; simp only [decide_eq_true_eq] at hnl hkl; have:=(ok_of hp).frm n (by omega) k (by omega); omega
 case o38=>intro hp x hx hl n hn hnl i hi hil k hk hkl; simp only [decide_eq_true_eq] at hnl hkl; have:=(ok_of hp).frm n (by omega) k (by omega); have:=(ok_of hp).machines; omega
 case o39=>intro hp x hx hl n hn hnl i hi hil k hk hkl; simp only [decide_eq_true_eq] at hnl; have:=(ok_of hp).fnd n (by omega); have:=(ok_of hp).plates; omega
 case o40=>intro hp x hx hl n hn hnl i hi hil k hk hkl; simp only [decide_eq_true_eq] at hnl; have:=(ok_of hp).fnd n (by omega); omega
 case o41=>intro hp x hx hl n hn hnl i hi hil k hk hkl; simp only [decide_eq_true_eq] at hnl; have:=(ok_of hp).fnd n (by omega); have:=(ok_of hp).last; omega
 case o42=>intro hp x hx hl n hn hnl i hi hil k hk hkl h; simp only [decide_eq_true_eq] at hnl; have:=acc3_len (ok_of hp) (n:=n) (by omega) i k; omega
 case o43=>intro hp x hx hl n hn hnl i hi hil k hk hkl h; simp only [decide_eq_true_eq] at hnl; have:=frm_len (ok_of hp) (i:=n) (by omega); simp only [inI]; omega
 case o49=>intro hp x hx hl n hn hnl i hi hil k hk hkl h; simp only [decide_eq_true_eq] at hnl; have:=frm_len (ok_of hp) (i:=n) (by omega); simp only [inI]; omega
 case o45=>intro hp x hx hl n hn hnl i hi hil k hk hkl h; simp only [decide_eq_true_eq] at hkl; rw [acc3_some (by omega) h,List.length_append]; rfl
 case o46=>intro hp x hx hl n hn hnl i hi hil k hk hkl h j hj; simp only [decide_eq_true_eq] at hkl; rw [acc3_some (by omega) h]; exact catF_one _ ⟨((waysTo r n).getD i default).frm ++ [(fnd r n).frm.getD k 0],(see (fnd r n) ((fnd r n).frm.getD k 0).toNat ((waysTo r n).getD i default).whn).2⟩ default cWay rfl (fun _ _=>rfl) rfl hj
 case o51=>intro hp x hx hl n hn hnl i hi hil k hk hkl h; simp only [decide_eq_true_eq] at hkl; rw [acc3_none (by omega) h]
 case o52=>intro hp x hx hl n hn hnl i hi hil k hk hkl h j hj; simp only [decide_eq_true_eq] at hkl; rw [acc3_none (by omega) h]
 case o55=>intro hp x hx hl n hn hnl i hi hil k hk hkl; simp only [decide_eq_true_eq] at hnl; have:=waysTo_bound (ok_of hp) (n:=n) (by omega); simp only [inI]; omega
 case o57=>intro hp x hx hl n hn hnl i hi hil k hk hkl; simp only [decide_eq_true_eq,decide_eq_false_iff_not] at hil hkl; rw [acc3_full (by omega) (by omega)]
 case o58=>intro hp x hx hl n hn hnl i hi hil k hk hkl j hj; simp only [decide_eq_true_eq,decide_eq_false_iff_not] at hil hkl; rw [acc3_full (by omega) (by omega)]
 case o61=>intro hp x hx hl n hn hnl i hi hil; have:=(ok_of hp).found; simp only [inI]; omega
 case o63=>intro hp x hx hl n hn hnl i hi hil; simp only [decide_eq_false_iff_not] at hil; rw [acc2_full (by omega)]
 case o64=>intro hp x hx hl n hn hnl i hi hil j hj; simp only [decide_eq_false_iff_not] at hil; rw [acc2_full (by omega)]
 case o67=>intro hp x hx hl n hn hnl; simp only [decide_eq_false_iff_not] at hnl; rw [show n=r.found.length by omega]; rfl
 case o68=>intro hp x hx hl n hn hnl j hj; simp only [decide_eq_false_iff_not] at hnl; rw [show n=r.found.length by omega]; rfl
 all_goals ((repeat intro _) <;> (try simp only [v0,v1,v2,v3,v4,v5,v6,v7,v8,v9,inI,fits,Go.Sh.small] at *) <;> first | (exact rfl) | omega | exact vz | (simp_all; done) | (simp_all; omega))
end Go.Ab
namespace Go.Sh
def openE (r:Run) (is:Bool):Int:=if check r=0 then (if is then (if (waysOf r).length=0 then 3 else 0) else 1) else 60
def openL (r:Run) (is:Bool):List WayS:=if openE r is=0 then waysOf r else []
def hull2 (a b:Span):Span:=⟨min a.lo b.lo,max a.hi b.hi⟩
def hullTo (l:List WayS) (F:WayS->Span) (n:Nat):Span:=(List.range n).foldl (fun o i=>hull2 o (F (l.getD i default))) (F (l.getD 0 default))
def hullOf (l:List WayS) (F:WayS->Span):Span:=hullTo l F l.length
theorem openE_bad {r:Run} {is:Bool} (h:check r ≠ 0):openE r is=60:=by simp [openE,h]
theorem openE_arg {r:Run} {is:Bool} (h:check r=0) (h2:is=false):openE r is=1:=by simp [openE,h,h2]
theorem openE_none {r:Run} {is:Bool} (h:check r=0) (h2:is=true) (h3:(waysOf r).length=0):openE r is=3:=by rw [openE,if_pos h,h2,if_pos rfl,if_pos h3]
theorem openE_ok {r:Run} {is:Bool} (h:check r=0) (h2:is=true) (h3:(waysOf r).length ≠ 0):openE r is=0:=by rw [openE,if_pos h,h2,if_pos rfl,if_neg h3]
theorem openL_bad {r:Run} {is:Bool} {n:Int} (h:openE r is=n) (hn:n ≠ 0):openL r is = []:=by rw [openL,h,if_neg hn]
theorem openL_ok {r:Run} {is:Bool} (h:openE r is=0):openL r is=waysOf r:=by rw [openL,if_pos h]
theorem openE_zero {r:Run} {is:Bool} (h:openE r is=0):okRun r=true/\is=true/\0 < (waysOf r).length/\openL r is=waysOf r:=by
 refine ⟨?_,?_,?_,openL_ok h⟩
 ·unfold openE at h
  split at h
  ·rename_i e; exact check_zero.1 e
  ·cases h
 ·unfold openE at h
  split at h
  ·split at h
   ·rename_i e; exact e
   ·cases h
  ·cases h
 ·unfold openE at h
  split at h
  ·split at h
   ·split at h
    ·cases h
    ·omega
   ·cases h
  ·cases h
theorem waysOf_bound {r:Run} (ok:Ok r):(waysOf r).length<=729:=waysTo_bound ok (Nat.le_refl _)
theorem hullTo_succ (l:List WayS) (F:WayS->Span) (n:Nat):hullTo l F (n + 1)=hull2 (hullTo l F n) (F (l.getD n default)):=Go.Ab.foldl_range_succ _ _ _
end Go.Sh
namespace Go.Ab
open Go Go.RowKit Go.Proofs Go.Sh Go.En
def s78 (r:Run) (is:Bool):CallSpec:={ args:=[vRun r,bv is],res := .tup [aWays (openL r is),iv (openE r is)],pre:=fits r }
def s81 (l:List WayS) (F:WayS->Span):CallSpec:={ args:=[aWays l,.fn 0],res:=vSpan (hullOf l F),pre:=0 < l.length/\l.length<=65536,fnok:=fnokOf Try.prog 0 (fun w:{ w:WayS // w ∈ l }=>[.agg (cWay w.1)]) (fun w=>vSpan (F w.1)) }
def h81 (l:List WayS) (F:WayS->Span):Hint:={ X:=Nat,M:=fun i=>[(16,iv i),(5,.ptr 5000 [])],H:=fun i=>[(5000,.cells 37 (cSpan (hullTo l F i)))],I:=fun i=>i<=l.length,mu:=fun i=>l.length - i,x0:=(0:Nat),nx:=fun i=>i + 1 }
def c81a (l:List WayS) (F:WayS->Span):CallSpec:={ args:=[.agg (cWay (l.getD 0 default))],res:=vSpan (F (l.getD 0 default)) }
def c81b (l:List WayS) (F:WayS->Span) (x:Nat):CallSpec:={ args:=[.agg (cWay (l.getD x default))],res:=vSpan (F (l.getD x default)) }
def whenF (m p:Nat) (w:WayS):Span:=w.whn m p
def s82 (w:WayS) (m p:Nat):CallSpec:={ args:=[.agg (cWay w),.rp [iv m],.rp [iv p]],res:=vSpan (whenF m p w),pre:=m < 3/\p < 3 }
end Go.Ab
namespace Go.Ab
open Go Go.RowKit Go.Proofs Go.Sh Go.En
abbrev q78_1 (r:Run) (is:Bool) (C:Prop):Prop:=fits r->(!decide (check r=0))=false->(!is)=false->C
abbrev q78_2 (r:Run) (is:Bool) (C:Prop):Prop:=q78_1 r is (decide ((↑((waysOf r).length):Int)=0)=false->C)
theorem w78 (r:Run) (is:Bool)
 (o0:fits r->(!decide (check r=0))->(openL r is).length=0)
 (o1:fits r->(!decide (check r=0))->check r=openE r is)
 (o2:fits r->(!decide (check r=0))=false->(!is)=true->(openL r is).length=0)
 (o3:fits r->(!decide (check r=0))=false->(!is)=true->1=openE r is)
 (o4:q78_1 r is (okRun r=true))
 (o5:q78_1 r is (decide ((↑((waysOf r).length):Int)=0)=true->(openL r is).length=0))
 (o6:q78_1 r is (decide ((↑((waysOf r).length):Int)=0)=true->3=openE r is))
 (o7:q78_2 r is ((waysOf r).length=(openL r is).length))
 (o8:q78_2 r is (∀ (i5:Nat),i5 < (openL r is).length->cWay ((waysOf r).getD i5 default)=cWay ((openL r is).getD i5 default)))
 (o9:q78_2 r is (0=openE r is)) :
  Triple Try.prog 78 (s78 r is):=by
 refine triple_of Try.func78 rfl Try.call78 T0_ok _ rfl rfl rfl rfl (Nat.le_of_ble_eq_true (by kernel_rfl)) (fun _ _ _ _ h=>h) ?_
 intro hp C hC _ hE
 obtain ⟨P,w0,E0,av,hA⟩:=C
 subst hC
 refine swp_seq ?_
 refine sQ (kt:=[1,2]) (kh:=[0]) (q:=tn 3) (st':=ASt.mk [(1,bv is),(2,.ptr 0 [])] [(0,.cells 25 (cRun r))] 24) (tp 3) ?_
 refine swp_seq (swp_seq ?_)
 refine sC (cs:=[(1,CallSpec.eq (s71 r) [true])]) (kt:=[1,2,6]) (kh:=[0]) (q:=True/\((zE (AV.agg (cRun r))/\True)/\Triple Try.prog 71 (s71 r)/\fits r/\True /\ ∀ (i0:Env),True)/\True/\True) (st':=ASt.mk [(1,bv is),(2,.ptr 0 []),(6,iv (check r))] [(0,.cells 25 (cRun r))] 48) ⟨tv,⟨⟨rfl,tv⟩,(t71 (r)),hp,tv,(fun i0=>tv)⟩,tv,tv⟩ ?_
 refine swp_seq ?_
 refine sQ (kt:=[1,2,6,11]) (kh:=[0]) (q:=tn 2) (st':=ASt.mk [(1,bv is),(2,.ptr 0 []),(6,iv (check r)),(11,bv !decide (check r=0))] [(0,.cells 25 (cRun r))] 64) (tp 2) ?_
 refine swp_cond (!decide (check r=0)) (by kernel_rfl) (fun h1 => ?_) (fun h1 => ?_)
 ·refine swp_seq ?_
  refine sQ (kt:=[4,5]) (kh:=[]) (q:=tn 3) (st':=ASt.mk [(4,nilv),(5,iv (check r))] [] 88) (tp 3) ?_
  refine swp_ret ?_
  exact rQ [] ((True/\True/\True)/\((openL r is).length=0/\(zN (iv (check r)) (iv (openE r is)))/\True)/\T3) ⟨⟨tv,tv,tv⟩,⟨(o0 hp h1),⟨(congrArg iv (o1 hp h1)),rfl⟩,tv⟩,rfl,rfl,rfl⟩
 ·refine swp_skip (swp_seq (swp_seq ?_))
  refine sQ (kt:=[2,14]) (kh:=[0]) (q:=tn 2) (st':=ASt.mk [(2,.ptr 0 []),(14,bv !is)] [(0,.cells 25 (cRun r))] 80) (tp 2) ?_
  refine swp_cond (!is) (by kernel_rfl) (fun h2 => ?_) (fun h2 => ?_)
  ·refine swp_seq ?_
   refine sQ (kt:=[4,5]) (kh:=[]) (q:=tn 2) (st':=ASt.mk [(4,nilv),(5,iv 1)] [] 96) (tp 2) ?_
   refine swp_ret ?_
   exact rQ [] ((True/\True/\True)/\((openL r is).length=0/\(zN (iv 1) (iv (openE r is)))/\True)/\T3) ⟨⟨tv,tv,tv⟩,⟨(o2 hp h1 h2),⟨(congrArg iv (o3 hp h1 h2)),rfl⟩,tv⟩,rfl,rfl,rfl⟩
  ·refine swp_skip (swp_seq ?_)
   refine sC (cs:=[(1,CallSpec.eq (s116 r) [true])]) (kt:=[7]) (kh:=[]) (q:=True/\((zE (AV.agg (cRun r))/\True)/\Triple Try.prog 116 (s116 r)/\okRun r=true/\True /\ ∀ (i3:Env),True)/\True/\True) (st':=ASt.mk [(7,aWays (waysOf r))] [] 104) ⟨tv,⟨⟨rfl,tv⟩,(t116 (r)),(o4 hp h1 h2),tv,(fun i3=>tv)⟩,tv,tv⟩ ?_
   refine swp_seq (swp_seq ?_)
   refine sQ (kt:=[7,19]) (kh:=[]) (q:=tn 3) (st':=ASt.mk [(7,aWays (waysOf r)),(19,bv (decide ((↑((waysOf r).length):Int)=0)))] [] 128) (tp 3) ?_
   refine swp_cond (decide ((↑((waysOf r).length):Int)=0)) (by kernel_rfl) (fun h4 => ?_) (fun h4 => ?_)
   ·refine swp_seq ?_
    refine sQ (kt:=[4,5]) (kh:=[]) (q:=tn 2) (st':=ASt.mk [(4,nilv),(5,iv 3)] [] 144) (tp 2) ?_
    refine swp_ret ?_
    exact rQ [] ((True/\True/\True)/\((openL r is).length=0/\(zN (iv 3) (iv (openE r is)))/\True)/\T3) ⟨⟨tv,tv,tv⟩,⟨(o5 hp h1 h2 h4),⟨(congrArg iv (o6 hp h1 h2 h4)),rfl⟩,tv⟩,rfl,rfl,rfl⟩
   ·refine swp_skip (swp_seq ?_)
    refine sQ (kt:=[4,5]) (kh:=[]) (q:=tn 3) (st':=ASt.mk [(4,aWays (waysOf r)),(5,iv 0)] [] 152) (tp 3) ?_
    refine swp_ret ?_
    exact rQ [] ((True/\True/\True)/\((19=19/\(waysOf r).length=(openL r is).length /\ ∀ (i5:Nat),i5 < (openL r is).length->cWay ((waysOf r).getD i5 default)=cWay ((openL r is).getD i5 default))/\(zN (iv 0) (iv (openE r is)))/\True)/\T3) ⟨⟨tv,tv,tv⟩,⟨⟨rfl,(o7 hp h1 h2 h4),(fun i5=>(fun h6=>(o8 hp h1 h2 h4 i5 h6)))⟩,⟨(congrArg iv (o9 hp h1 h2 h4)),rfl⟩,tv⟩,rfl,rfl,rfl⟩
theorem t78 (r:Run) (is:Bool):Triple Try.prog 78 (s78 r is):=by
 have bad:(!decide (check r=0))=true->check r=60/\openE r is=60:=by
  intro h
  simp only [Bool.not_eq_true',decide_eq_false_iff_not] at h
  refine ⟨?_,openE_bad h⟩
  unfold check at h ⊢
  split at h
  ·exact absurd rfl h
  ·rename_i e; rw [if_neg e]
 have good:(!decide (check r=0))=false->check r=0:=by intro h; simpa using h
 apply w78
 case o0=>intro _ h; rw [openL_bad (bad h).2 (by decide)]; rfl
 case o1=>intro _ h; rw [(bad h).1,(bad h).2]
 case o2=>intro _ h h2; rw [openL_bad (openE_arg (good h) (by simpa using h2)) (by decide)]; rfl
 case o3=>intro _ h h2; exact (openE_arg (good h) (by simpa using h2)).symm
 case o4=>intro _ h h2; exact check_zero.1 (good h)
 case o5=>intro _ h h2 h3; rw [openL_bad (openE_none (good h) (by simpa using h2) (by simp only [decide_eq_true_eq] at h3; omega)) (by decide)]; rfl
 case o6=>intro _ h h2 h3; exact (openE_none (good h) (by simpa using h2) (by simp only [decide_eq_true_eq] at h3; omega)).symm
 case o7=>intro _ h h2 h3; rw [openL_ok (openE_ok (good h) (by simpa using h2) (by simp only [decide_eq_false_iff_not] at h3; omega))]
 case o8=>intro _ h h2 h3 i hi; rw [openL_ok (openE_ok (good h) (by simpa using h2) (by simp only [decide_eq_false_iff_not] at h3; omega))]
 case o9=>intro _ h h2 h3; exact (openE_ok (good h) (by simpa using h2) (by simp only [decide_eq_false_iff_not] at h3; omega)).symm
abbrev z81_1 (l:List WayS) (F:WayS->Span):LoopAnn:=Hint.ann (h81 l F) [(1,AV.fn 0),(4,AV.ptr 0 []),(14,aWays l),(15,iv (↑(l.length):Int))] [(0,OB.cells 37 [iv 0,iv 0])] 10088
abbrev q81_1 (l:List WayS) (F:WayS->Span) (C:Env->Prop):Prop := ∀ (E0:Env),fnokOf Try.prog 0 (fun (w:{ w:WayS // w ∈ l })=>[AV.agg (cWay (Subtype.val w))]) (fun (w:{ w:WayS // w ∈ l })=>vSpan (F (Subtype.val w))) E0->0 < l.length/\l.length<=65536->C E0
abbrev q81_2 (l:List WayS) (F:WayS->Span) (C:Env->Nat->Prop):Prop:=q81_1 l F fun E0 => ∀ (x4:Nat),x4<=l.length->decide ((x4:Int) < (↑(l.length):Int))=true->C E0 x4
theorem w81 (l:List WayS) (F:WayS->Span)
 (o0:q81_1 l F fun E0=>0 < (↑(l.length):Int))
 (o1:q81_1 l F fun E0 => ∀ (i2:Value),E0.4 0 i2->FnOK Try.prog E0 i2 [AV.agg (cWay (l.getD 0 default))] (AV.agg (cSpan (F (l.getD 0 default)))))
 (o2:q81_1 l F fun E0=>0=(↑0:Int))
 (o3:q81_1 l F fun E0=>(F (l.getD 0 default)).lo=(hullTo l F 0).lo)
 (o4:q81_1 l F fun E0=>(F (l.getD 0 default)).hi=(hullTo l F 0).hi)
 (o5:q81_1 l F fun E0=>0<=l.length)
 (o6:q81_2 l F fun E0 x4=>0<=(x4:Int))
 (o7:q81_2 l F fun E0 x4=>(x4:Int) < (↑(l.length):Int))
 (o8:q81_2 l F fun E0 x4 => ∀ (i8:Value),E0.4 0 i8->FnOK Try.prog E0 i8 [AV.agg (cWay (l.getD x4 default))] (AV.agg (cSpan (F (l.getD x4 default)))))
 (o9:q81_2 l F fun E0 x4=>inI ((x4:Int) + 1))
 (o10:q81_2 l F fun E0 x4=>(x4:Int) + 1=(↑(x4 + 1):Int))
 (o11:q81_2 l F fun E0 x4=>min (hullTo l F x4).lo (F (l.getD x4 default)).lo=(hullTo l F (x4 + 1)).lo)
 (o12:q81_2 l F fun E0 x4=>max (hullTo l F x4).hi (F (l.getD x4 default)).hi=(hullTo l F (x4 + 1)).hi)
 (o13:q81_2 l F fun E0 x4=>x4 + 1<=l.length)
 (o14:q81_2 l F fun E0 x4=>l.length - (x4 + 1) < l.length - x4)
 (o15:q81_1 l F fun E0 => ∀ (x4:Nat),x4<=l.length->decide ((x4:Int) < (↑(l.length):Int))=false->(hullTo l F x4).lo=(hullOf l F).lo)
 (o16:q81_1 l F fun E0 => ∀ (x4:Nat),x4<=l.length->decide ((x4:Int) < (↑(l.length):Int))=false->(hullTo l F x4).hi=(hullOf l F).hi) :
  Triple Try.prog 81 (s81 l F):=by
 refine triple_of Try.func81 rfl Try.call81 T0_ok _ rfl rfl rfl rfl (Nat.le_of_ble_eq_true (by kernel_rfl)) fnokOf_congr ?_
 intro hp C hC hfn hE
 obtain ⟨P,w0,E0,av,hA⟩:=C
 subst hC
 refine swp_seq ?_
 refine sQ (kt:=[0,1,4]) (kh:=[0]) (q:=True/\True) (st':=ASt.mk [(0,aWays l),(1,.fn 0),(4,.ptr 0 [])] [(0,.cells 37 [iv 0,iv 0])] 8) ⟨tv,tv⟩ ?_
 refine swp_seq ?_
 refine sC (cs:=[(4,CallSpec.eq (c81a l F) [true])]) (kt:=[0,1,4,5]) (kh:=[0,48]) (q:=True/\True/\(Int.ofNat 0<=Int.ofNat 0/\0 < (↑(l.length):Int))/\True/\((((1=1/\(l.getD 0 default).frm.length=(l.getD 0 default).frm.length /\ ∀ (i0:Nat),i0 < (l.getD 0 default).frm.length -> [iv ((l.getD 0 default).frm.getD i0 0)] = [iv ((l.getD 0 default).frm.getD i0 0)])/\zE (AV.arr 6 3 fun (m:Nat)=>[AV.arr 2 3 fun (p:Nat)=>cSpan ((l.getD 0 default).whn m p)])/\True)/\True) /\ ∀ (i2:Value),E0.4 0 i2->FnOK Try.prog E0 i2 [AV.agg (cWay (l.getD 0 default))] (AV.agg (cSpan (F (l.getD 0 default)))))/\tn 2) (st':=ASt.mk [(0,aWays l),(1,.fn 0),(4,.ptr 0 []),(5,.ptr 48 [])] [(0,.cells 37 [iv 0,iv 0]),(48,.cells 37 (cSpan (F (l.getD 0 default))))] 64) ⟨tv,tv,⟨(by decide),(o0 E0 hfn hp)⟩,tv,⟨⟨⟨⟨rfl,rfl,(fun i0=>(fun h1=>rfl))⟩,rfl,tv⟩,tv⟩,(fun i2=>(fun h3=>(o1 E0 hfn hp i2 h3)))⟩,tp 2⟩ ?_
 refine swp_seq (swp_seq ?_)
 refine sQ (kt:=[1,4,5,14,15,16]) (kh:=[0,48]) (q:=tn 3) (st':=ASt.mk [(1,.fn 0),(4,.ptr 0 []),(5,.ptr 48 []),(14,aWays l),(15,iv (↑(l.length):Int)),(16,iv 0)] [(0,.cells 37 [iv 0,iv 0]),(48,.cells 37 (cSpan (F (l.getD 0 default))))] 88) (tp 3) ?_
 refine swp_block ?_
 refine swp_loopA (z81_1 l F) (eQ hE [] [(0,.same 0),(5000,.same 48)] [1,14,15] [0] (((zT (AV.fn 0))/\(zP 0)/\(zT (aWays l))/\(zT (iv (↑(l.length):Int)))/\(zN (iv 0) (iv (↑0:Int)))/\(zP 48)/\True)/\((zT (OB.cells 37 [iv 0,iv 0]))/\(37=37/\((zN (iv (F (l.getD 0 default)).lo) (iv (hullTo l F 0).lo))/\(zN (iv (F (l.getD 0 default)).hi) (iv (hullTo l F 0).hi))/\True)/\true=true)/\True)/\T2) ⟨⟨⟨rfl,rfl⟩,⟨rfl,rfl⟩,⟨rfl,rfl⟩,⟨rfl,rfl⟩,⟨(congrArg iv (o2 E0 hfn hp)),rfl⟩,⟨rfl,rfl⟩,tv⟩,⟨⟨rfl,rfl⟩,⟨rfl,⟨⟨(congrArg iv (o3 E0 hfn hp)),rfl⟩,⟨(congrArg iv (o4 E0 hfn hp)),rfl⟩,tv⟩,rfl⟩,tv⟩,rfl,rfl⟩) (o5 E0 hfn hp) (fun (x4:Nat) hx4 => ?_)
 refine swp_seq ?_
 refine sQ (kt:=[1,4,14,15,16,5,17]) (kh:=[0,5000]) (q:=True/\True) (st':=ASt.mk [(1,.fn 0),(4,.ptr 0 []),(14,aWays l),(15,iv (↑(l.length):Int)),(16,iv (x4:Int)),(5,.ptr 5000 []),(17,bv (decide ((x4:Int) < (↑(l.length):Int))))] [(0,.cells 37 [iv 0,iv 0]),(5000,.cells 37 (cSpan (hullTo l F x4)))] 10096) ⟨tv,tv⟩ ?_
 refine swp_seq ?_
 refine swp_cond (decide ((x4:Int) < (↑(l.length):Int))) (by kernel_rfl) (fun h5 => ?_) (fun h5 => ?_)
 ·refine swp_skip (swp_seq (swp_block (swp_seq ?_)))
  refine sQ (kt:=[1,4,14,15,16,5,7]) (kh:=[0,5000,10112]) (q:=(0<=(x4:Int)/\(x4:Int) < (↑(l.length):Int))/\tn 3) (st':=ASt.mk [(1,.fn 0),(4,.ptr 0 []),(14,aWays l),(15,iv (↑(l.length):Int)),(16,iv (x4:Int)),(5,.ptr 5000 []),(7,.ptr 10112 [])] [(0,.cells 37 [iv 0,iv 0]),(5000,.cells 37 (cSpan (hullTo l F x4))),(10112,.cells 107 (cWay (l.getD x4 default)))] 10128) ⟨⟨(o6 E0 hfn hp x4 hx4 h5),(o7 E0 hfn hp x4 hx4 h5)⟩,tp 3⟩ ?_
  refine swp_seq ?_
  refine sC (cs:=[(2,CallSpec.eq (c81b l F x4) [true])]) (kt:=[1,4,14,15,16,5,8]) (kh:=[0,5000,10152]) (q:=True/\True/\((((1=1/\(l.getD x4 default).frm.length=(l.getD x4 default).frm.length /\ ∀ (i6:Nat),i6 < (l.getD x4 default).frm.length -> [iv ((l.getD x4 default).frm.getD i6 0)] = [iv ((l.getD x4 default).frm.getD i6 0)])/\zE (AV.arr 6 3 fun (m:Nat)=>[AV.arr 2 3 fun (p:Nat)=>cSpan ((l.getD x4 default).whn m p)])/\True)/\True) /\ ∀ (i8:Value),E0.4 0 i8->FnOK Try.prog E0 i8 [AV.agg (cWay (l.getD x4 default))] (AV.agg (cSpan (F (l.getD x4 default)))))/\tn 2) (st':=ASt.mk [(1,.fn 0),(4,.ptr 0 []),(14,aWays l),(15,iv (↑(l.length):Int)),(16,iv (x4:Int)),(5,.ptr 5000 []),(8,.ptr 10152 [])] [(0,.cells 37 [iv 0,iv 0]),(5000,.cells 37 (cSpan (hullTo l F x4))),(10152,.cells 37 (cSpan (F (l.getD x4 default))))] 10168) ⟨tv,tv,⟨⟨⟨⟨rfl,rfl,(fun i6=>(fun h7=>rfl))⟩,rfl,tv⟩,tv⟩,(fun i8=>(fun h9=>(o8 E0 hfn hp x4 hx4 h5 i8 h9)))⟩,tp 2⟩ ?_
  refine sQ (kt:=[1,4,14,15,16,5]) (kh:=[0,5000]) (q:=tn 12) (st':=ASt.mk [(1,.fn 0),(4,.ptr 0 []),(14,aWays l),(15,iv (↑(l.length):Int)),(16,iv (x4:Int)),(5,.ptr 5000 [])] [(0,.cells 37 [iv 0,iv 0]),(5000,.cells 37 [iv (min (hullTo l F x4).lo (F (l.getD x4 default)).lo),iv (max (hullTo l F x4).hi (F (l.getD x4 default)).hi)])] 10264) (tp 12) ?_
  refine sQ (kt:=[1,4,14,15,16,5]) (kh:=[0,5000]) (q:=inI ((x4:Int) + 1)/\True/\True) (st':=ASt.mk [(1,.fn 0),(4,.ptr 0 []),(14,aWays l),(15,iv (↑(l.length):Int)),(16,iv ((x4:Int) + 1)),(5,.ptr 5000 [])] [(0,.cells 37 [iv 0,iv 0]),(5000,.cells 37 [iv (min (hullTo l F x4).lo (F (l.getD x4 default)).lo),iv (max (hullTo l F x4).hi (F (l.getD x4 default)).hi)])] 10280) ⟨(o9 E0 hfn hp x4 hx4 h5),tv,tv⟩ ?_
  exact loop_next (z81_1 l F) x4 (eQ hE [] [(0,.same 0),(5000,.same 5000)] [1,14,15] [0] (((zT (AV.fn 0))/\(zP 0)/\(zT (aWays l))/\(zT (iv (↑(l.length):Int)))/\(zN (iv ((x4:Int) + 1)) (iv (↑(x4 + 1):Int)))/\(zP 5000)/\True)/\((zT (OB.cells 37 [iv 0,iv 0]))/\(37=37/\((zN (iv (min (hullTo l F x4).lo (F (l.getD x4 default)).lo)) (iv (hullTo l F (x4 + 1)).lo))/\(zN (iv (max (hullTo l F x4).hi (F (l.getD x4 default)).hi)) (iv (hullTo l F (x4 + 1)).hi))/\True)/\true=true)/\True)/\T2) ⟨⟨⟨rfl,rfl⟩,⟨rfl,rfl⟩,⟨rfl,rfl⟩,⟨rfl,rfl⟩,⟨(congrArg iv (o10 E0 hfn hp x4 hx4 h5)),rfl⟩,⟨rfl,rfl⟩,tv⟩,⟨⟨rfl,rfl⟩,⟨rfl,⟨⟨(congrArg iv (o11 E0 hfn hp x4 hx4 h5)),rfl⟩,⟨(congrArg iv (o12 E0 hfn hp x4 hx4 h5)),rfl⟩,tv⟩,rfl⟩,tv⟩,rfl,rfl⟩) (o13 E0 hfn hp x4 hx4 h5) (o14 E0 hfn hp x4 hx4 h5)
 ·refine swp_exit (swp_seq ?_)
  refine sQ (kt:=[4]) (kh:=[0]) (q:=tn 2) (st':=ASt.mk [(4,.ptr 0 [])] [(0,.cells 37 (cSpan (hullTo l F x4)))] 10112) (tp 2) ?_
  refine swp_ret ?_
  exact rQ [] ((True/\True)/\((zN (iv (hullTo l F x4).lo) (iv (hullOf l F).lo))/\(zN (iv (hullTo l F x4).hi) (iv (hullOf l F).hi))/\True)/\T3) ⟨⟨tv,tv⟩,⟨⟨(congrArg iv (o15 E0 hfn hp x4 hx4 h5)),rfl⟩,⟨(congrArg iv (o16 E0 hfn hp x4 hx4 h5)),rfl⟩,tv⟩,rfl,rfl,rfl⟩
theorem t81 (l:List WayS) (F:WayS->Span):Triple Try.prog 81 (s81 l F):=by
 apply w81
 case o1=>intro E0 hfn hp u hu; exact hfn u hu ⟨_,getD_mem l default hp.1⟩
 case o8=>intro E0 hfn hp x hx hl u hu; exact hfn u hu ⟨_,getD_mem l default (by simpa using hl)⟩
 case o11=>(repeat intro _); rw [hullTo_succ]; rfl
 case o12=>(repeat intro _); rw [hullTo_succ]; rfl
 case o15=>intro E0 hfn hp x hx hl; simp only [decide_eq_false_iff_not] at hl; rw [show x=l.length by omega]; rfl
 case o16=>intro E0 hfn hp x hx hl; simp only [decide_eq_false_iff_not] at hl; rw [show x=l.length by omega]; rfl
 all_goals ((repeat intro _) <;> (try simp only [v0,v1,v2,v3,v4,v5,v6,v7,v8,v9,inI,fits,Go.Sh.small] at *) <;> first | (exact rfl) | omega | exact vz | (simp_all; done) | (simp_all; omega))
theorem w82 (w:WayS) (m:Nat) (p:Nat)
 (o0:m < 3/\p < 3->0<=(↑m:Int))
 (o1:m < 3/\p < 3->(↑m:Int) < (↑3:Int))
 (o2:m < 3/\p < 3->0<=(↑p:Int))
 (o3:m < 3/\p < 3->(↑p:Int) < (↑3:Int)) :
  Triple Try.prog 82 (s82 w m p):=by
 refine triple_of Try.func82 rfl Try.call82 T0_ok _ rfl rfl rfl rfl (Nat.le_of_ble_eq_true (by kernel_rfl)) (fun _ _ _ _ h=>h) ?_
 intro hp C hC _ hE
 obtain ⟨P,w0,E0,av,hA⟩:=C
 subst hC
 refine swp_seq ?_
 refine sQ (kt:=[1,2,3,4]) (kh:=[0,8]) (q:=tn 2) (st':=ASt.mk [(1,.rp [iv (m:Int)]),(2,.rp [iv (p:Int)]),(3,.ptr 0 []),(4,.ptr 8 [])] [(0,.cells 107 (cWay w)),(8,.cells 37 [iv 0,iv 0])] 16) (tp 2) ?_
 refine swp_seq ?_
 refine sQ (kt:=[4]) (kh:=[8]) (q:=True/\True/\True/\(0<=(m:Int)/\(m:Int) < (↑3:Int))/\(0<=(p:Int)/\(p:Int) < (↑3:Int))/\(m < 3/\p < 3/\True)/\True/\True) (st':=ASt.mk [(4,.ptr 8 [])] [(8,.cells 37 (cSpan (w.whn m p)))] 72) ⟨tv,tv,tv,⟨(o0 hp),(o1 hp)⟩,⟨(o2 hp),(o3 hp)⟩,⟨hp.1,hp.2,tv⟩,tv,tv⟩ ?_
 refine swp_ret ?_
 exact rQ [] ((True/\True)/\((zM (iv (w.whn m p).lo))/\(zM (iv (w.whn m p).hi))/\True)/\T3) ⟨⟨tv,tv⟩,⟨⟨rfl,rfl⟩,⟨rfl,rfl⟩,tv⟩,rfl,rfl,rfl⟩
theorem t82 (w:WayS) (m p:Nat):Triple Try.prog 82 (s82 w m p):=by
 apply w82
 all_goals ((repeat intro _) <;> (try simp only [v0,v1,v2,v3,v4,v5,v6,v7,v8,v9,inI,fits,Go.Sh.small] at *) <;> first | (exact rfl) | omega | exact vz | (simp_all; done) | (simp_all; omega))
end Go.Ab
namespace Go.Sh
def whenIs (r:Run) (m p:Int):Bool:=isMachine r m && isPlate r p
def whenS (r:Run) (m p:Int):Span:=if openE r (whenIs r m p)=0 then hullOf (waysOf r) (Go.Ab.whenF m.toNat p.toNat) else ⟨0,0⟩
theorem whenS_bad {r:Run} {m p:Int} (h:openE r (whenIs r m p) ≠ 0):whenS r m p=⟨0,0⟩:=by rw [whenS,if_neg h]
theorem whenS_ok {r:Run} {m p:Int} (h:openE r (whenIs r m p)=0):whenS r m p=hullOf (openL r (whenIs r m p)) (Go.Ab.whenF m.toNat p.toNat):=by rw [whenS,if_pos h,openL_ok h]
theorem plates_wr {r:Run} (ok:Ok r):Go.Ab.wr (r.plates - 1)=r.plates - 1:=Go.Ab.wrap_in _ ⟨by have:=ok.plates; omega,by have:=ok.plates; omega⟩
theorem whenIs_ok {r:Run} {m p:Int} (ok:Ok r) (h:whenIs r m p=true):0<=m/\m.toNat < r.machines.length/\0<=p/\(p.toNat:Int) < r.plates:=by
 simp only [whenIs,isMachine,isPlate,Bool.and_eq_true,within_iff,plates_wr ok] at h
 omega
end Go.Sh
namespace Go.Ab
open Go Go.RowKit Go.Proofs Go.Sh Go.En
def s23 (r:Run) (m p:Int):CallSpec:={ args:=[vRun r,iv m,iv p],res := .tup [vSpan (whenS r m p),iv (openE r (whenIs r m p))],pre:=fits r }
def c23o (r:Run) (m p:Int):CallSpec:=s78 r (whenIs r m p)
def c23 (r:Run) (m p:Int):CallSpec:=s81 (openL r (whenIs r m p)) (whenF m.toNat p.toNat)
end Go.Ab
namespace Go.Ab
open Go Go.RowKit Go.Proofs Go.Sh Go.En
abbrev q23_1 (r:Run) (m:Int) (p:Int) (C:Prop):Prop:=fits r->(!decide (openE r (whenIs r m p)=0))=false->C
theorem w23 (r:Run) (m:Int) (p:Int)
 (o0:fits r->(bif isMachine r m then isPlate r p else false)=whenIs r m p)
 (o1:fits r->(!decide (openE r (whenIs r m p)=0))->0=(whenS r m p).lo)
 (o2:fits r->(!decide (openE r (whenIs r m p)=0))->0=(whenS r m p).hi)
 (o3:q23_1 r m p (0 < (openL r (whenIs r m p)).length))
 (o4:q23_1 r m p ((openL r (whenIs r m p)).length<=65536))
 (o5:∀ (E0:Env),fits r->(!decide (openE r (whenIs r m p)=0))=false -> ∀ (i11:Env) (i12:List Value),Env.le E0 i11->i12.length=List.length [aWays (openL r (whenIs r m p)),AV.fn 0]->(∀ (k:Nat),Rel i11 true (List.getD [aWays (openL r (whenIs r m p)),AV.clo 82 [AV.rp [iv m],AV.rp [iv p]]] k AV.any) (i12.getD k undef))->fnokOf Try.prog 0 (fun (w:{ w:WayS // w ∈ openL r (whenIs r m p) })=>[AV.agg (cWay (Subtype.val w))]) (fun (w:{ w:WayS // w ∈ openL r (whenIs r m p) })=>vSpan ((Subtype.val w).whn m.toNat p.toNat)) (Env.mk i11.1 i11.2 i11.3 fun (k:Nat) (u:Value) => ∃ (i:Nat),[aWays (openL r (whenIs r m p)),AV.fn 0][i]? = some (AV.fn k)/\i12[i]? = some u))
 (o6:q23_1 r m p ((hullOf (openL r (whenIs r m p)) fun (w:WayS)=>w.whn m.toNat p.toNat).lo=(whenS r m p).lo))
 (o7:q23_1 r m p ((hullOf (openL r (whenIs r m p)) fun (w:WayS)=>w.whn m.toNat p.toNat).hi=(whenS r m p).hi))
 (o8:q23_1 r m p (0=openE r (whenIs r m p))) :
  Triple Try.prog 23 (s23 r m p):=by
 refine triple_of Try.func23 rfl Try.call23 T0_ok _ rfl rfl rfl rfl (Nat.le_of_ble_eq_true (by kernel_rfl)) (fun _ _ _ _ h=>h) ?_
 intro hp C hC _ hE
 obtain ⟨P,w0,E0,av,hA⟩:=C
 subst hC
 refine swp_seq ?_
 refine sQ (kt:=[3,4,5,6]) (kh:=[0,8,16,24]) (q:=tn 5) (st':=ASt.mk [(3,.ptr 0 []),(4,.ptr 8 []),(5,.ptr 16 []),(6,.ptr 24 [])] [(0,.cells 25 (cRun r)),(8,.cells 3 [iv m]),(16,.cells 3 [iv p]),(24,.cells 37 [iv 0,iv 0])] 40) (tp 5) ?_
 refine swp_seq ?_
 refine sC (cs:=[(3,CallSpec.eq (s79 r m) [true,true]),(7,CallSpec.eq (s80 r p) [true,true]),(9,CallSpec.eq (c23o r m p) [true,false])]) (kt:=[4,5,6,8,9]) (kh:=[8,16,24]) (q:=True/\True/\True/\((zE (AV.agg (cRun r))/\iv m=iv m/\True)/\Triple Try.prog 79 (s79 r m)/\fits r/\True /\ ∀ (i0:Env),True)/\True/\(isMachine r m=true->(True/\True)/\True)/\(isMachine r m=true->(True/\True)/\True)/\(isMachine r m=true->(True/\(isMachine r m=true->isMachine r m=true)/\(isMachine r m=true->isMachine r m=true)/\True)/\(zE (AV.agg (cRun r))/\iv p=iv p/\True)/\Triple Try.prog 80 (s80 r p)/\fits r/\True /\ ∀ (i6:Env),True)/\((isMachine r m=true->isMachine r m=true)/\(isMachine r m=false->True))/\((zE (AV.agg (cRun r))/\bv (bif isMachine r m then isPlate r p else false)=bv (whenIs r m p)/\True)/\Triple Try.prog 78 (c23o r m p)/\fits r/\True /\ ∀ (i9:Env),True)/\tn 5) (st':=ASt.mk [(4,.ptr 8 []),(5,.ptr 16 []),(6,.ptr 24 []),(8,aWays (openL r (whenIs r m p))),(9,iv (openE r (whenIs r m p)))] [(8,.cells 3 [iv m]),(16,.cells 3 [iv p]),(24,.cells 37 [iv 0,iv 0])] 160) ⟨tv,tv,tv,⟨⟨rfl,rfl,tv⟩,(t79 (r) (m)),hp,tv,(fun i0=>tv)⟩,tv,(fun h1=>⟨⟨tv,tv⟩,tv⟩),(fun h2=>⟨⟨tv,tv⟩,tv⟩),(fun h3=>⟨⟨tv,(fun h4=>h3),(fun h5=>h3),tv⟩,⟨rfl,rfl,tv⟩,(t80 (r) (p)),hp,tv,(fun i6=>tv)⟩),⟨(fun h7=>h7),(fun h8=>tv)⟩,⟨⟨rfl,(congrArg bv (o0 hp)),tv⟩,(t78 _ _),hp,tv,(fun i9=>tv)⟩,tp 5⟩ ?_
 refine swp_seq (swp_seq ?_)
 refine sQ (kt:=[4,5,6,8,9,24]) (kh:=[8,16,24]) (q:=tn 2) (st':=ASt.mk [(4,.ptr 8 []),(5,.ptr 16 []),(6,.ptr 24 []),(8,aWays (openL r (whenIs r m p))),(9,iv (openE r (whenIs r m p))),(24,bv !decide (openE r (whenIs r m p)=0))] [(8,.cells 3 [iv m]),(16,.cells 3 [iv p]),(24,.cells 37 [iv 0,iv 0])] 176) (tp 2) ?_
 refine swp_cond (!decide (openE r (whenIs r m p)=0)) (by kernel_rfl) (fun h10 => ?_) (fun h10 => ?_)
 ·refine swp_seq ?_
  refine sQ (kt:=[6,7]) (kh:=[24]) (q:=tn 4) (st':=ASt.mk [(6,.ptr 24 []),(7,iv (openE r (whenIs r m p)))] [(24,.cells 37 [iv 0,iv 0])] 208) (tp 4) ?_
  refine swp_ret ?_
  exact rQ [] ((True/\True/\True)/\(((zN (iv 0) (iv (whenS r m p).lo))/\(zN (iv 0) (iv (whenS r m p).hi))/\True)/\(zM (iv (openE r (whenIs r m p))))/\True)/\T3) ⟨⟨tv,tv,tv⟩,⟨⟨⟨(congrArg iv (o1 hp h10)),rfl⟩,⟨(congrArg iv (o2 hp h10)),rfl⟩,tv⟩,⟨rfl,rfl⟩,tv⟩,rfl,rfl,rfl⟩
 ·refine swp_skip (swp_seq ?_)
  refine swp_ent (ent_fz 8 3 ([iv m]) (ASt.mk [(4,AV.rp [iv m]),(5,AV.ptr 16 []),(6,AV.ptr 24 []),(8,aWays (openL r (whenIs r m p))),(9,iv (openE r (whenIs r m p))),(24,bv !decide (openE r (whenIs r m p)=0))] [(16,OB.cells 3 [iv p]),(24,OB.cells 37 [iv 0,iv 0])] 176) (by kernel_rfl) (by kernel_rfl) (by kernel_rfl)) ?_
  refine swp_ent (ent_fz 16 3 ([iv p]) (ASt.mk [(4,AV.rp [iv m]),(5,AV.rp [iv p]),(6,AV.ptr 24 []),(8,aWays (openL r (whenIs r m p))),(9,iv (openE r (whenIs r m p))),(24,bv !decide (openE r (whenIs r m p)=0))] [(24,OB.cells 37 [iv 0,iv 0])] 176) (by kernel_rfl) (by kernel_rfl) (by kernel_rfl)) ?_
  refine sC (cs:=[(2,CallSpec.eq (c23 r m p) [true,false])]) (kt:=[6,7]) (kh:=[24]) (q:=True/\True/\((zE (aWays (openL r (whenIs r m p)))/\True/\True)/\Triple Try.prog 81 (c23 r m p)/\(0 < (openL r (whenIs r m p)).length/\(openL r (whenIs r m p)).length<=65536)/\True /\ ∀ (i11:Env) (i12:List Value),Env.le E0 i11->i12.length=List.length [aWays (openL r (whenIs r m p)),AV.fn 0]->(∀ (k:Nat),Rel i11 true (List.getD [aWays (openL r (whenIs r m p)),AV.clo 82 [AV.rp [iv m],AV.rp [iv p]]] k AV.any) (i12.getD k undef))->fnokOf Try.prog 0 (fun (w:{ w:WayS // w ∈ openL r (whenIs r m p) })=>[AV.agg (cWay (Subtype.val w))]) (fun (w:{ w:WayS // w ∈ openL r (whenIs r m p) })=>vSpan ((Subtype.val w).whn m.toNat p.toNat)) (Env.mk i11.1 i11.2 i11.3 fun (k:Nat) (u:Value) => ∃ (i:Nat),[aWays (openL r (whenIs r m p)),AV.fn 0][i]? = some (AV.fn k)/\i12[i]? = some u))/\tn 2) (st':=ASt.mk [(6,.ptr 24 []),(7,iv 0)] [(24,.cells 37 (cSpan (hullOf (openL r (whenIs r m p)) fun (w:WayS)=>w.whn m.toNat p.toNat)))] 216) ⟨tv,tv,⟨⟨rfl,tv,tv⟩,(t81 _ _),⟨(o3 hp h10),(o4 hp h10)⟩,tv,(fun i11=>(fun i12=>(fun h13=>(fun h14=>(fun h15=>(o5 E0 hp h10 i11 i12 h13 h14 h15))))))⟩,tp 2⟩ ?_
  refine swp_ret ?_
  exact rQ [] ((True/\True/\True)/\(((zN (iv (hullOf (openL r (whenIs r m p)) fun (w:WayS)=>w.whn m.toNat p.toNat).lo) (iv (whenS r m p).lo))/\(zN (iv (hullOf (openL r (whenIs r m p)) fun (w:WayS)=>w.whn m.toNat p.toNat).hi) (iv (whenS r m p).hi))/\True)/\(zN (iv 0) (iv (openE r (whenIs r m p))))/\True)/\T3) ⟨⟨tv,tv,tv⟩,⟨⟨⟨(congrArg iv (o6 hp h10)),rfl⟩,⟨(congrArg iv (o7 hp h10)),rfl⟩,tv⟩,⟨(congrArg iv (o8 hp h10)),rfl⟩,tv⟩,rfl,rfl,rfl⟩
theorem t23 (r:Run) (m p:Int):Triple Try.prog 23 (s23 r m p):=by
 have bad:(!decide (openE r (whenIs r m p)=0))=true->openE r (whenIs r m p) ≠ 0:=by intro h; simpa using h
 have good:(!decide (openE r (whenIs r m p)=0))=false->openE r (whenIs r m p)=0:=by intro h; simpa using h
 apply w23
 case o0=>intro _; unfold whenIs; cases isMachine r m <;> rfl
 case o1=>intro _ h; rw [whenS_bad (bad h)]
 case o2=>intro _ h; rw [whenS_bad (bad h)]
 case o3=>intro _ h; obtain ⟨h1,h2,h3,h4⟩:=openE_zero (good h); rw [h4]; exact h3
 case o4=>intro _ h; obtain ⟨h1,h2,h3,h4⟩:=openE_zero (good h); rw [h4]; have:=waysOf_bound (ok_of h1); omega
 case o5 =>
  intro E0 _ h E us le hlen hr
  obtain ⟨h1,h2,h3,h4⟩:=openE_zero (good h)
  have hw:=whenIs_ok (ok_of h1) h2
  have hb:=(ok_of h1).machines
  have hp:=(ok_of h1).plates
  refine fnok_arg (vals:=[aWays (openL r (whenIs r m p)),.clo 82 [.rp [iv m],.rp [iv p]]]) 1 (fun j' h => ?_) (fun E u hu w=>fnok_clo (caps:=[.rp [iv m],.rp [iv p]]) (s82 w.1 m.toNat p.toNat) (t82 w.1 _ _) ?_ ⟨by omega,by omega⟩ (fun _=>trivial) rfl rfl rfl rfl rfl hu) E us le hlen hr
  ·match j',h with
   | 0,h=>cases h
   | 1,_=>rfl
   | n + 2,h=>simp at h
  ·show [AV.agg (cWay w.1),AV.rp [iv (m.toNat:Int)],AV.rp [iv (p.toNat:Int)]]=_
   rw [Int.toNat_of_nonneg hw.1,Int.toNat_of_nonneg hw.2.2.1]; rfl
 case o6=>intro _ h; rw [whenS_ok (good h)]; rfl
 case o7=>intro _ h; rw [whenS_ok (good h)]; rfl
 case o8=>intro _ h; exact (good h).symm
end Go.Ab
namespace Go.Sh
@[reducible] def sb (s:Span):Prop:=0<=s.lo/\s.lo<=1000/\0<=s.hi/\s.hi<=1000
@[reducible] def wb (w:WayS):Prop := ∀ m p,sb (w.whn m p)
def sprIn (g:Nat->Span) (i:Nat) (h0:Int) (k:Nat):Int:=(List.range k).foldl (fun h k=>if i=k then h else max h ((g i).hi - (g k).lo)) h0
structure Spr where
 first:Int
 last:Int
 high:Int
def sprTo (g:Nat->Span) (n i:Nat):Spr:=(List.range i).foldl (fun s i=>⟨min s.first (g i).hi,max s.last (g i).lo,sprIn g i s.high n⟩) ⟨(g 0).hi,(g 0).lo,0⟩
def spread (g:Nat->Span) (n:Nat):Span:=⟨max 0 ((sprTo g n n).last - (sprTo g n n).first),(sprTo g n n).high⟩
theorem sprIn_succ (g:Nat->Span) (i:Nat) (h0:Int) (k:Nat):sprIn g i h0 (k + 1)=if i=k then sprIn g i h0 k else max (sprIn g i h0 k) ((g i).hi - (g k).lo):=Go.Ab.foldl_range_succ _ _ _
theorem sprTo_succ (g:Nat->Span) (n i:Nat):sprTo g n (i + 1)=⟨min (sprTo g n i).first (g i).hi,max (sprTo g n i).last (g i).lo,sprIn g i (sprTo g n i).high n⟩:=Go.Ab.foldl_range_succ _ _ _
@[reducible] def gb (g:Nat->Span):Prop := ∀ p,sb (g p)
theorem sprIn_b {g:Nat->Span} (h:gb g) (i:Nat) {h0:Int} (hh:0<=h0/\h0<=1000):∀ k,0<=sprIn g i h0 k/\sprIn g i h0 k<=1000:=by
 intro k
 induction k with
 | zero=>exact hh
 | succ k ih =>
  rw [sprIn_succ]
  have h1:=h i; have h2:=h k
  split <;> omega
theorem sprTo_b {g:Nat->Span} (h:gb g) (n:Nat):∀ i,0<=(sprTo g n i).first/\(sprTo g n i).first<=1000/\0<=(sprTo g n i).last/\(sprTo g n i).last<=1000/\0<=(sprTo g n i).high/\(sprTo g n i).high<=1000:=by
 intro i
 induction i with
 | zero=>have:=h 0; simp only [sprTo,List.range_zero,List.foldl_nil]; omega
 | succ i ih =>
  rw [sprTo_succ]
  have h1:=h i
  have h2:=sprIn_b h i (h0:=(sprTo g n i).high) (by omega) n
  simp only
  omega
theorem spread_b {g:Nat->Span} (h:gb g) (n:Nat):0<=(spread g n).lo/\(spread g n).lo<=1000/\0<=(spread g n).hi/\(spread g n).hi<=1000:=by
 have:=sprTo_b h n n
 simp only [spread]
 omega
def rb (r:Run):Prop:=r.machines.length<=3 /\ ∀ i,i < r.machines.length->0<=(mach r i).rate/\(mach r i).rate<=9
theorem rb_of {r:Run} (ok:Ok r):rb r:=⟨ok.machines.2,fun i hi=>(ok.mach i hi).2⟩
def sumTo (r:Run) (f:Nat->Span) (n:Nat):Span:=(List.range n).foldl (fun s m=>⟨s.lo + (mach r m).rate * (f m).lo,s.hi + (mach r m).rate * (f m).hi⟩) ⟨0,0⟩
theorem sumTo_succ (r:Run) (f:Nat->Span) (n:Nat):sumTo r f (n + 1)=⟨(sumTo r f n).lo + (mach r n).rate * (f n).lo,(sumTo r f n).hi + (mach r n).rate * (f n).hi⟩:=Go.Ab.foldl_range_succ _ _ _
theorem rate_mul {a b:Int} (h:0<=a/\a<=9) (h2:0<=b/\b<=1000):0<=a * b/\a * b<=9000 :=
 ⟨Int.mul_nonneg h.1 h2.1,by have:=Int.mul_le_mul h.2 h2.2 h2.1 (by omega:(0:Int)<=9); omega⟩
theorem sumTo_b {r:Run} (h:rb r) {f:Nat->Span} (hf:∀ m,0<=(f m).lo/\(f m).lo<=1000/\0<=(f m).hi/\(f m).hi<=1000):∀ n,n<=r.machines.length->0<=(sumTo r f n).lo/\(sumTo r f n).lo<=9000 * n/\0<=(sumTo r f n).hi/\(sumTo r f n).hi<=9000 * n:=by
 intro n
 induction n with
 | zero=>intro _; simp only [sumTo,List.range_zero,List.foldl_nil]; omega
 | succ n ih =>
  intro hn
  have h1:=ih (by omega)
  have h2:=hf n
  have h3:=h.2 n (by omega)
  have h4:=rate_mul h3 ⟨h2.1,h2.2.1⟩
  have h5:=rate_mul h3 ⟨h2.2.2.1,h2.2.2.2⟩
  rw [sumTo_succ]
  simp only
  omega
def oldF (r:Run) (p:Nat) (w:WayS):Span:=sumTo r (fun m=>w.whn m p) r.machines.length
def mixF (r:Run) (w:WayS):Span:=sumTo r (fun m=>spread (w.whn m) r.plates.toNat) r.machines.length
def oldS (r:Run) (p:Int):Span:=if openE r (isPlate r p)=0 then hullOf (waysOf r) (oldF r p.toNat) else ⟨0,0⟩
def mixesS (r:Run):Span:=if openE r true=0 then hullOf (waysOf r) (mixF r) else ⟨0,0⟩
def cnt (l:List WayS) (P:WayS->Bool) (n:Nat):Nat:=(l.take n).countP P
theorem cnt_succ {l:List WayS} {P:WayS->Bool} {n:Nat} (h:n < l.length):cnt l P (n + 1)=cnt l P n + if P (l.getD n default) then 1 else 0:=by
 unfold cnt; rw [Go.Ab.take_succ _ default h,List.countP_append,List.countP_singleton]
theorem cnt_t {l:List WayS} {P:WayS->Bool} {n:Nat} (h:n < l.length) (hp:P (l.getD n default)=true):(cnt l P n:Int) + 1=cnt l P (n + 1):=by rw [cnt_succ h,if_pos hp]; rfl
theorem cnt_f {l:List WayS} {P:WayS->Bool} {n:Nat} (h:n < l.length) (hp:P (l.getD n default)=false):(cnt l P n:Int)=cnt l P (n + 1):=by rw [cnt_succ h,hp]; rfl
theorem cnt_le (l:List WayS) (P:WayS->Bool) (n:Nat):cnt l P n<=n:=by
 unfold cnt
 exact Nat.le_trans (List.countP_le_length) (by rw [List.length_take]; omega)
def rdS (w:WayS) (f p:Nat):Span:=w.whn (w.frm.getD f 0).toNat p
def rdSo (r:Run) (f p:Nat) (w:WayS):Bool:=decide ((rdS w f p).hi<=(fnd r f).minute)
def rdNot (r:Run) (f p:Nat) (w:WayS):Bool := !rdSo r f p w && decide ((rdS w f p).lo > (fnd r f).minute)
theorem rdNot_t {r:Run} {f p:Nat} {w:WayS} (e:rdSo r f p w=true):rdNot r f p w=false:=by rw [rdNot,e]; rfl
theorem rdNot_f {r:Run} {f p:Nat} {w:WayS} {b:Bool} (e:rdSo r f p w=false) (e2:decide ((rdS w f p).lo > (fnd r f).minute)=b):rdNot r f p w=b:=by rw [rdNot,e,e2]; rfl
def readIs (r:Run) (f p:Int):Bool:=isFound r f && isPlate r p
def readS (r:Run) (f p:Int):Int:=if openE r (readIs r f p)=0 then known3 (cnt (waysOf r) (rdSo r f.toNat p.toNat) (waysOf r).length) (cnt (waysOf r) (rdNot r f.toNat p.toNat) (waysOf r).length) (waysOf r).length else 0
def smSo (a b:Nat) (w:WayS):Bool:=decide (w.frm.getD a 0=w.frm.getD b 0)
def sameIs (r:Run) (a b:Int):Bool:=isFound r a && isFound r b
def mxSo (r:Run) (m:Nat) (w:WayS):Bool:=decide ((spread (w.whn m) r.plates.toNat).lo > 0)
def mxNot (r:Run) (m:Nat) (w:WayS):Bool := !mxSo r m w && decide ((spread (w.whn m) r.plates.toNat).hi=0)
theorem sb_see {c:Fnd} (hc:0<=c.minute/\c.minute<=900) (p:Nat) {s:Span} (h:sb s):sb (seeOne c p s):=by
 unfold seeOne
 split
 ·exact ⟨by simp only; omega,by simp only; omega,h.2.2.1,h.2.2.2⟩
 ·split
  ·exact ⟨h.1,h.2.1,by simp only; omega,by simp only; omega⟩
  ·exact h
theorem wb_see (c:Fnd) (m:Nat) (hc:0<=c.minute/\c.minute<=900):∀ k p (f:Nat->Nat->Span),(∀ m p,sb (f m p)) -> ∀ j q,sb ((seeN c m k p f).2 j q):=by
 intro k
 induction k with
 | zero=>intro p f h; exact h
 | succ k ih =>
  intro p f h
  have h1:∀ j q,sb (upd2 f m p (seeOne c p (f m p)) j q):=by
   intro j q
   unfold upd2
   split
   ·split
    ·exact sb_see hc p (h m p)
    ·exact h j q
   ·exact h j q
  rw [seeN]
  split
  ·exact h1
  ·exact ih _ _ h1
theorem wb_first {r:Run} (ok:Ok r) (m p:Nat):sb (firstWhn r r.machines.length m p):=by
 unfold firstWhn
 split
 ·split
  ·have:=ok.span m (by omega) p (by omega)
   have:=ok.last
   exact ⟨by omega,by omega,by omega,by omega⟩
  ·exact ⟨by simp,by simp,by simp,by simp⟩
 ·exact ⟨by simp,by simp,by simp,by simp⟩
theorem wb_ways {r:Run} (ok:Ok r):∀ n,n<=r.found.length -> ∀ w,w ∈ waysTo r n->wb w:=by
 intro n
 induction n with
 | zero=>intro _ w h; simp [waysTo] at h; rw [h]; exact wb_first ok
 | succ n ih =>
  intro hn w h
  rw [waysTo,List.mem_flatMap] at h
  obtain ⟨v,hv,h⟩:=h
  unfold step at h
  rw [List.mem_filterMap] at h
  obtain ⟨m,_,h⟩:=h
  unfold one at h
  split at h
  ·cases h
   have:=ok.fnd n (by omega)
   have h2:=ok.last
   exact wb_see _ _ (by omega) _ _ _ (ih (by omega) v hv)
  ·cases h
theorem wb_of {r:Run} (ok:Ok r) {w:WayS} (h:w ∈ waysOf r):wb w:=wb_ways ok _ (Nat.le_refl _) w h
theorem way_frm {r:Run} {w:WayS} (h:w ∈ waysOf r):w.frm.length=r.found.length:=waysTo_frm _ _ h
theorem ways_frm {r:Run}:∀ n w,w ∈ waysTo r n -> ∀ i,i < n->w.frm.getD i 0 ∈ (fnd r i).frm:=by
 intro n
 induction n with
 | zero=>intro w _ i hi; omega
 | succ n ih =>
  intro w h i hi
  rw [waysTo,List.mem_flatMap] at h
  obtain ⟨v,hv,h⟩:=h
  have hl:=waysTo_frm n v hv
  unfold step at h
  rw [List.mem_filterMap] at h
  obtain ⟨m,hm,h⟩:=h
  unfold one at h
  split at h
  ·cases h
   show (v.frm ++ [m]).getD i 0 ∈ _
   rw [Go.Ab.getD_append]
   split
   ·exact ih v hv i (by omega)
   ·have:i=n:=by omega
    subst this
    rw [hl,Nat.sub_self]; exact hm
  ·cases h
theorem way_mach {r:Run} (ok:Ok r) {w:WayS} (h:w ∈ waysOf r) {i:Nat} (hi:i < r.found.length):0<=w.frm.getD i 0/\w.frm.getD i 0 < r.machines.length:=by
 have h1:=ways_frm _ w h i hi
 obtain ⟨k,hk,e⟩:=List.getElem_of_mem h1
 have h2:=ok.frm i hi k hk
 rw [Go.Ab.getD_lt _ _ hk,e] at h2
 exact h2
theorem openBad {r:Run} {is:Bool} (h:(!decide (openE r is=0))=true):openE r is ≠ 0:=by simpa using h
structure OpenF (r:Run) (is:Bool):Prop where
 zero:openE r is=0
 ok:Ok r
 isT:is=true
 eq:openL r is=waysOf r
 pos:0 < (openL r is).length
 len:(openL r is).length<=729
 wb:∀ w,w ∈ openL r is->wb w
 frm:∀ x,x < (openL r is).length->((openL r is).getD x default).frm.length=r.found.length
 mach:∀ x,x < (openL r is).length -> ∀ i,i < r.found.length->0<=((openL r is).getD x default).frm.getD i 0/\((openL r is).getD x default).frm.getD i 0 < r.machines.length/\r.machines.length<=3
theorem openF {r:Run} {is:Bool} (h:(!decide (openE r is=0))=false):OpenF r is:=by
 have h0:openE r is=0:=by simpa using h
 obtain ⟨h1,h2,h3,h4⟩:=openE_zero h0
 have ok:=ok_of h1
 have h5:=waysOf_bound ok
 refine ⟨h0,ok,h2,h4,by rw [h4]; exact h3,by rw [h4]; exact h5,fun w hw=>wb_of ok (by rw [h4] at hw; exact hw),fun x hx => ?_,fun x hx i hi => ?_⟩
 ·rw [h4] at hx ⊢
  exact way_frm (Go.Ab.getD_mem _ default hx)
 ·rw [h4] at hx ⊢
  have:=way_mach ok (Go.Ab.getD_mem _ default hx) hi
  exact ⟨this.1,this.2,ok.machines.2⟩
theorem readIs_ok {r:Run} {f p:Int} (ok:Ok r) (h:readIs r f p=true):0<=f/\f < r.found.length/\0<=p/\p < r.plates/\p < 3:=by
 have:=ok.plates
 simp only [readIs,isFound,isPlate,Bool.and_eq_true,within_iff,plates_wr ok] at h
 omega
theorem plateIs_ok {r:Run} {p:Int} (ok:Ok r) (h:isPlate r p=true):0<=p/\p < r.plates/\p < 3:=by
 have:=ok.plates
 simp only [isPlate,within_iff,plates_wr ok] at h
 omega
theorem machIs_ok {r:Run} {m:Int} (h:isMachine r m=true):0<=m/\m < r.machines.length:=by
 simp only [isMachine,within_iff] at h
 omega
end Go.Sh
namespace Go.Ab
open Go Go.RowKit Go.Proofs Go.Sh Go.En
def s108 (w:WayS) (m p:Nat):CallSpec:={ args:=[.agg (cWay w),iv m,iv p],res:=vSpan (spread (w.whn m) p),pre:=wb w/\m < 3/\1<=p/\p<=3 }
def h108a (w:WayS) (m p:Nat):Hint:={ X:=Nat,M:=fun i=>[(8,iv (sprTo (w.whn m) p i).first),(9,iv (sprTo (w.whn m) p i).last),(10,iv (sprTo (w.whn m) p i).high),(30,iv i)],I:=fun i=>i<=p,mu:=fun i=>p - i,x0:=(0:Nat),nx:=fun i=>i + 1 }
def h108b (w:WayS) (m p:Nat) (x:Nat):Hint:={ X:=Nat,M:=fun k=>[(10,iv (sprIn (w.whn m) x (sprTo (w.whn m) p x).high k)),(45,iv k)],I:=fun k=>k<=p,mu:=fun k=>p - k,x0:=(0:Nat),nx:=fun k=>k + 1 }
def s83 (w:WayS) (r:Run) (p:Nat):CallSpec:={ args:=[.agg (cWay w),.rp (cRun r),.rp [iv p]],res:=vSpan (oldF r p w),pre:=rb r/\wb w/\p < 3 }
def h83 (w:WayS) (r:Run) (p:Nat):Hint:={ X:=Nat,M:=fun i=>[(10,iv i),(4,.ptr 5000 [])],H:=fun i=>[(5000,.cells 37 (cSpan (sumTo r (fun m=>w.whn m p) i)))],I:=fun i=>i<=r.machines.length,mu:=fun i=>r.machines.length - i,x0:=(0:Nat),nx:=fun i=>i + 1 }
def s117 (w:WayS) (r:Run):CallSpec:={ args:=[.agg (cWay w),.rp (cRun r)],res:=vSpan (mixF r w),pre:=rb r/\wb w/\1<=r.plates/\r.plates<=3 }
def h117 (w:WayS) (r:Run):Hint:={ X:=Nat,M:=fun i=>[(10,iv i),(3,.ptr 5000 [])],H:=fun i=>[(5000,.cells 37 (cSpan (sumTo r (fun m=>spread (w.whn m) r.plates.toNat) i)))],I:=fun i=>i<=r.machines.length,mu:=fun i=>r.machines.length - i,x0:=(0:Nat),nx:=fun i=>i + 1 }
def c117 (w:WayS) (r:Run) (i:Nat):CallSpec:=s108 w i r.plates.toNat
def s84 (r:Run) (l:List WayS):CallSpec:={ args:=[vRun r,aWays l],res:=vSpan (hullOf l (mixF r)),pre:=fits r/\rb r/\(∀ w,w ∈ l->wb w)/\1<=r.plates/\r.plates<=3/\0 < l.length/\l.length<=65536 }
def c84 (r:Run) (l:List WayS):CallSpec:=s81 l (mixF r)
def s27 (r:Run):CallSpec:={ args:=[vRun r],res := .tup [vSpan (mixesS r),iv (openE r true)],pre:=fits r }
def c27 (r:Run):CallSpec:=s84 r (openL r true)
def s26 (r:Run) (p:Int):CallSpec:={ args:=[vRun r,iv p],res := .tup [vSpan (oldS r p),iv (openE r (isPlate r p))],pre:=fits r }
def c26o (r:Run) (p:Int):CallSpec:=s78 r (isPlate r p)
def c26 (r:Run) (p:Int):CallSpec:=s81 (openL r (isPlate r p)) (oldF r p.toNat)
def s31 (r:Run) (f p:Int):CallSpec:={ args:=[vRun r,iv f,iv p],res := .tup [iv (readS r f p),iv (openE r (readIs r f p))],pre:=fits r }
def c31o (r:Run) (f p:Int):CallSpec:=s78 r (readIs r f p)
def h31 (r:Run) (f p:Int):Hint:={ X:=Nat,M:=fun i=>[(10,iv (cnt (openL r (readIs r f p)) (rdSo r f.toNat p.toNat) i)),(11,iv (cnt (openL r (readIs r f p)) (rdNot r f.toNat p.toNat) i)),(34,iv i)],I:=fun i=>i<=(openL r (readIs r f p)).length,mu:=fun i=>(openL r (readIs r f p)).length - i,x0:=(0:Nat),nx:=fun i=>i + 1 }
def h38 (r:Run) (a b:Int):Hint:={ X:=Nat,M:=fun i=>[(10,iv (cnt (openL r (sameIs r a b)) (smSo a.toNat b.toNat) i)),(31,iv i)],I:=fun i=>i<=(openL r (sameIs r a b)).length,mu:=fun i=>(openL r (sameIs r a b)).length - i,x0:=(0:Nat),nx:=fun i=>i + 1 }
def h65 (r:Run) (m:Int):Hint:={ X:=Nat,M:=fun i=>[(8,iv (cnt (openL r (isMachine r m)) (mxSo r m.toNat) i)),(9,iv (cnt (openL r (isMachine r m)) (mxNot r m.toNat) i)),(26,iv i)],I:=fun i=>i<=(openL r (isMachine r m)).length,mu:=fun i=>(openL r (isMachine r m)).length - i,x0:=(0:Nat),nx:=fun i=>i + 1 }
end Go.Ab
