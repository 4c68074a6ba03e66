/- Part 5 of the proof: own library, plain forms and walks. -/
import Derived.Test.YtcbgfmalillplaaQMixes4
set_option linter.all false
set_option linter.deprecated false
namespace Go.Sh
def wfTo (l:List WayS) (f n:Nat):List Int:=(l.take n).map (fun w=>w.frm.getD f 0)
def wf (l:List WayS) (f:Nat):List Int:=l.map (fun w=>w.frm.getD f 0)
theorem wfTo_succ {l:List WayS} {f n:Nat} (h:n < l.length):wfTo l f (n + 1)=wfTo l f n ++ [(l.getD n default).frm.getD f 0]:=by
 unfold wfTo; rw [Go.Ab.take_succ _ default h,List.map_append]; rfl
theorem wfTo_len {l:List WayS} {f n:Nat} (h:n<=l.length):(wfTo l f n).length=n:=by
 unfold wfTo; rw [List.length_map,List.length_take]; omega
theorem wfTo_full {l:List WayS} {f n:Nat} (h:l.length<=n):wfTo l f n=wf l f:=by
 unfold wfTo wf; rw [List.take_of_length_le h]
theorem wf_len (l:List WayS) (f:Nat):(wf l f).length=l.length:=by simp [wf]
def whereP (l:List WayS) (f:Nat):List Int:=compactI (sortI (wf l f))
def whereS (r:Run) (f:Int):List Int:=if openE r (isFound r f)=0 then whereP (waysOf r) f.toNat else []
end Go.Sh
namespace Go.Ab
open Go Go.RowKit Go.Proofs Go.Sh Go.En
def s119 (b:Nat) (l:List Int):CallSpec:={ args:=[.vec b],pre:=0 < l.length/\l.length<=65536,hin:=[(b,rowI 3 l)],res := .tup [],hout:=[(b,rowI 3 (sortI l))] }
theorem t119 (b:Nat) (l:List Int):Triple Try.prog 119 (s119 b l):=triple_sort Try.call119 3 b l (fun k cap w h1 h2 h3=>Try.slices_Sort_int k 0 cap l w h1 h2 h3)
def s120 (b:Nat) (l:List Int):CallSpec:={ args:=[.vec b],pre:=0 < l.length/\l.length<=65536,hin:=[(b,rowI 3 l)],res:=aInts (compactI l),hout:=[] }
theorem t120 (b:Nat) (l:List Int):Triple Try.prog 120 (s120 b l):=triple_compact Try.call120 3 b l (fun k cap w h1 h2 h3=>Try.slices_Compact_int k 0 cap l w h1 h2 h3) (compact_le l)
def s90 (l:List WayS) (f:Nat):CallSpec:={ args:=[aWays l,iv f],res:=aInts (whereP l f),pre:=0 < l.length/\l.length<=729 /\ ∀ x,x < l.length->f < (l.getD x default).frm.length }
def h90 (l:List WayS) (f:Nat):Hint:={ X:=Nat,M:=fun i=>[(10,iv i),(5,.vec 5000)],H:=fun i=>[(5000,rowI 3 (wfTo l f i))],I:=fun i=>i<=l.length,mu:=fun i=>l.length - i,x0:=(0:Nat),nx:=fun i=>i + 1 }
def c90a (l:List WayS) (f:Nat):CallSpec:=s119 5000 (wf l f)
def c90b (l:List WayS) (f:Nat):CallSpec:=s120 5000 (sortI (wf l f))
def s35 (r:Run) (f:Int):CallSpec:={ args:=[vRun r,iv f],res := .tup [aInts (whereS r f),iv (openE r (isFound r f))],pre:=fits r }
def c35o (r:Run) (f:Int):CallSpec:=s78 r (isFound r f)
def c35 (r:Run) (f:Int):CallSpec:=s90 (openL r (isFound r f)) f.toNat
end Go.Ab
namespace Go.Ab
open Go Go.RowKit Go.Proofs Go.Sh Go.En
abbrev z90_1 (l:List WayS) (f:Nat):LoopAnn:=Hint.ann (h90 l f) [(1,iv (f:Int)),(8,aWays l),(9,iv (↑(l.length):Int))] [] 10040
abbrev q90_1 (l:List WayS) (f:Nat) (C:Prop):Prop:=(0 < l.length/\l.length<=729 /\ ∀ (x:Nat),x < l.length->f < (l.getD x default).frm.length)->C
abbrev q90_2 (l:List WayS) (f:Nat) (C:Nat->Prop):Prop:=q90_1 l f (∀ (x0:Nat),x0<=l.length->decide ((x0:Int) < (↑(l.length):Int))=true->C x0)
abbrev q90_3 (l:List WayS) (f:Nat) (C:Nat->Prop):Prop:=q90_1 l f (∀ (x0:Nat),x0<=l.length->decide ((x0:Int) < (↑(l.length):Int))=false->C x0)
theorem w90 (l:List WayS) (f:Nat)
 (o0:q90_1 l f (0=(↑0:Int)))
 (o1:q90_1 l f ((wfTo l f 0).length=0))
 (o2:q90_1 l f (0<=l.length))
 (o3:q90_2 l f fun x0=>0<=(x0:Int))
 (o4:q90_2 l f fun x0=>(x0:Int) < (↑(l.length):Int))
 (o5:q90_2 l f fun x0=>0<=(f:Int))
 (o6:q90_2 l f fun x0=>(f:Int) < (↑((l.getD x0 default).frm.length):Int))
 (o7:q90_2 l f fun x0=>(wfTo l f x0).length + 1<=65536)
 (o8:q90_2 l f fun x0=>inI ((x0:Int) + 1))
 (o9:q90_2 l f fun x0=>(x0:Int) + 1=(↑(x0 + 1):Int))
 (o10:q90_2 l f fun x0=>(wfTo l f x0).length + 1=(wfTo l f (x0 + 1)).length)
 (o11:q90_2 l f fun x0 => ∀ (i2:Nat),i2 < (wfTo l f x0).length + 1->catF (wfTo l f x0).length (fun (i:Nat)=>[iv ((wfTo l f x0).getD i 0)]) (fun (j:Nat)=>List.getD [[iv ((l.getD x0 default).frm.getD f 0)]] j (TI.za ti3)) i2 = [iv ((wfTo l f (x0 + 1)).getD i2 0)])
 (o12:q90_2 l f fun x0=>x0 + 1<=l.length)
 (o13:q90_2 l f fun x0=>l.length - (x0 + 1) < l.length - x0)
 (o14:q90_3 l f fun x0=>(wfTo l f x0).length=(wf l f).length)
 (o15:q90_3 l f fun x0 => ∀ (i4:Nat),i4 < (wfTo l f x0).length -> [iv ((wfTo l f x0).getD i4 0)] = [iv ((wf l f).getD i4 0)])
 (o16:q90_3 l f fun x0=>0 < (wf l f).length)
 (o17:q90_3 l f fun x0=>(wf l f).length<=65536)
 (o18:q90_3 l f fun x0=>0 < (sortI (wf l f)).length)
 (o19:q90_3 l f fun x0=>(sortI (wf l f)).length<=65536)
 (o20:q90_3 l f fun x0=>(compactI (sortI (wf l f))).length=(whereP l f).length)
 (o21:q90_3 l f fun x0 => ∀ (i8:Nat),i8 < (whereP l f).length -> [iv ((compactI (sortI (wf l f))).getD i8 0)] = [iv ((whereP l f).getD i8 0)]) :
  Triple Try.prog 90 (s90 l f):=by
 refine triple_of Try.func90 rfl Try.call90 T0_ok _ rfl rfl rfl rfl (Nat.le_of_ble_eq_true (by kernel_rfl)) (fun _ _ _ _ h=>h) ?_
 intro hp C hC _ hE
 obtain ⟨P,w0,E0,av,hA⟩:=C
 subst hC
 refine swp_seq ?_
 refine sQ (kt:=[0,1]) (kh:=[]) (q:=True/\True) (st':=ASt.mk [(0,aWays l),(1,iv (f:Int))] [] 8) ⟨tv,tv⟩ ?_
 refine swp_seq ?_
 refine sQ (kt:=[0,1,5]) (kh:=[]) (q:=True/\True) (st':=ASt.mk [(0,aWays l),(1,iv (f:Int)),(5,nilv)] [] 16) ⟨tv,tv⟩ ?_
 refine swp_seq (swp_seq ?_)
 refine sQ (kt:=[1,5,8,9,10]) (kh:=[]) (q:=tn 3) (st':=ASt.mk [(1,iv (f:Int)),(5,nilv),(8,aWays l),(9,iv (↑(l.length):Int)),(10,iv 0)] [] 40) (tp 3) ?_
 refine swp_block ?_
 refine swp_loopA (z90_1 l f) (eQ hE [] [(5000,.nil)] [1,8,9] [] (((zT (iv (f:Int)))/\(zT (aWays l))/\(zT (iv (↑(l.length):Int)))/\(zN (iv 0) (iv (↑0:Int)))/\zE (some Src.nil)/\True)/\((wfTo l f 0).length=0/\True)/\T2) ⟨⟨⟨rfl,rfl⟩,⟨rfl,rfl⟩,⟨rfl,rfl⟩,⟨(congrArg iv (o0 hp)),rfl⟩,rfl,tv⟩,⟨(o1 hp),tv⟩,rfl,rfl⟩) (o2 hp) (fun (x0:Nat) hx0 => ?_)
 refine swp_seq ?_
 refine sQ (kt:=[1,8,9,10,5,11]) (kh:=[5000]) (q:=True/\True) (st':=ASt.mk [(1,iv (f:Int)),(8,aWays l),(9,iv (↑(l.length):Int)),(10,iv (x0:Int)),(5,.vec 5000),(11,bv (decide ((x0:Int) < (↑(l.length):Int))))] [(5000,.vec 3 1 (wfTo l f x0).length fun (i:Nat)=>[iv ((wfTo l f x0).getD i 0)])] 10048) ⟨tv,tv⟩ ?_
 refine swp_seq ?_
 refine swp_cond (decide ((x0:Int) < (↑(l.length):Int))) (by kernel_rfl) (fun h1 => ?_) (fun h1 => ?_)
 ·refine swp_skip (swp_seq (swp_block (swp_seq ?_)))
  refine sQ (kt:=[1,8,9,10,5,7]) (kh:=[5000,10064]) (q:=(0<=(x0:Int)/\(x0:Int) < (↑(l.length):Int))/\tn 3) (st':=ASt.mk [(1,iv (f:Int)),(8,aWays l),(9,iv (↑(l.length):Int)),(10,iv (x0:Int)),(5,.vec 5000),(7,.ptr 10064 [])] [(5000,.vec 3 1 (wfTo l f x0).length fun (i:Nat)=>[iv ((wfTo l f x0).getD i 0)]),(10064,.cells 107 (cWay (l.getD x0 default)))] 10080) ⟨⟨(o3 hp x0 hx0 h1),(o4 hp x0 hx0 h1)⟩,tp 3⟩ ?_
  refine sQ (kt:=[1,8,9,10,5]) (kh:=[10136]) (q:=True/\True/\True/\True/\(0<=(f:Int)/\(f:Int) < (↑((l.getD x0 default).frm.length):Int))/\True/\True/\(wfTo l f x0).length + 1<=65536/\True/\True) (st':=ASt.mk [(1,iv (f:Int)),(8,aWays l),(9,iv (↑(l.length):Int)),(10,iv (x0:Int)),(5,.vec 10136)] [(10136,.vec 3 1 ((wfTo l f x0).length + 1) (catF (wfTo l f x0).length (fun (i:Nat)=>[iv ((wfTo l f x0).getD i 0)]) fun (j:Nat)=>List.getD [[iv ((l.getD x0 default).frm.getD f 0)]] j (TI.za ti3)))] 10152) ⟨tv,tv,tv,tv,⟨(o5 hp x0 hx0 h1),(o6 hp x0 hx0 h1)⟩,tv,tv,(o7 hp x0 hx0 h1),tv,tv⟩ ?_
  refine sQ (kt:=[1,8,9,10,5]) (kh:=[10136]) (q:=inI ((x0:Int) + 1)/\True/\True) (st':=ASt.mk [(1,iv (f:Int)),(8,aWays l),(9,iv (↑(l.length):Int)),(10,iv ((x0:Int) + 1)),(5,.vec 10136)] [(10136,.vec 3 1 ((wfTo l f x0).length + 1) (catF (wfTo l f x0).length (fun (i:Nat)=>[iv ((wfTo l f x0).getD i 0)]) fun (j:Nat)=>List.getD [[iv ((l.getD x0 default).frm.getD f 0)]] j (TI.za ti3)))] 10168) ⟨(o8 hp x0 hx0 h1),tv,tv⟩ ?_
  exact loop_next (z90_1 l f) x0 (eQ hE [] [(5000,.same 10136)] [1,8,9] [] (((zT (iv (f:Int)))/\(zT (aWays l))/\(zT (iv (↑(l.length):Int)))/\(zN (iv ((x0:Int) + 1)) (iv (↑(x0 + 1):Int)))/\zE (some (Src.same 10136))/\True)/\((3=3/\1=1/\(wfTo l f x0).length + 1=(wfTo l f (x0 + 1)).length /\ ∀ (i2:Nat),i2 < (wfTo l f x0).length + 1->catF (wfTo l f x0).length (fun (i:Nat)=>[iv ((wfTo l f x0).getD i 0)]) (fun (j:Nat)=>List.getD [[iv ((l.getD x0 default).frm.getD f 0)]] j (TI.za ti3)) i2 = [iv ((wfTo l f (x0 + 1)).getD i2 0)])/\True)/\T2) ⟨⟨⟨rfl,rfl⟩,⟨rfl,rfl⟩,⟨rfl,rfl⟩,⟨(congrArg iv (o9 hp x0 hx0 h1)),rfl⟩,rfl,tv⟩,⟨⟨rfl,rfl,(o10 hp x0 hx0 h1),(fun i2=>(fun h3=>(o11 hp x0 hx0 h1 i2 h3)))⟩,tv⟩,rfl,rfl⟩) (o12 hp x0 hx0 h1) (o13 hp x0 hx0 h1)
 ·refine swp_exit (swp_seq ?_)
  refine swp_ent (eQ (st2:=ASt.mk [(1,iv (f:Int)),(8,aWays l),(9,iv (↑(l.length):Int)),(10,iv (x0:Int)),(5,AV.vec 5000),(11,bv (decide ((x0:Int) < (↑(l.length):Int))))] [(5000,OB.vec 3 1 (wf l f).length fun (i:Nat)=>[iv ((wf l f).getD i 0)])] 10048) hE [] [(5000,.same 5000)] [1,8,9,10,11] [] (((zT (iv (f:Int)))/\(zT (aWays l))/\(zT (iv (↑(l.length):Int)))/\(zT (iv (x0:Int)))/\zE (some (Src.same 5000))/\(zT (bv (decide ((x0:Int) < (↑(l.length):Int)))))/\True)/\((3=3/\1=1/\(wfTo l f x0).length=(wf l f).length /\ ∀ (i4:Nat),i4 < (wfTo l f x0).length -> [iv ((wfTo l f x0).getD i4 0)] = [iv ((wf l f).getD i4 0)])/\True)/\T2) ⟨⟨⟨rfl,rfl⟩,⟨rfl,rfl⟩,⟨rfl,rfl⟩,⟨rfl,rfl⟩,rfl,⟨rfl,rfl⟩,tv⟩,⟨⟨rfl,rfl,(o14 hp x0 hx0 h1),(fun i4=>(fun h5=>(o15 hp x0 hx0 h1 i4 h5)))⟩,tv⟩,rfl,rfl⟩) ?_
  refine sC (cs:=[(1,CallSpec.eq (c90a l f) [true])]) (kt:=[5]) (kh:=[5000]) (q:=True/\((zE (AV.vec 5000)/\True)/\Triple Try.prog 119 (c90a l f)/\(0 < (wf l f).length/\(wf l f).length<=65536)/\(zE (some (OB.vec 3 1 (wf l f).length fun (i:Nat)=>[iv ((wf l f).getD i 0)]))/\True) /\ ∀ (i6:Env),True)/\True) (st':=ASt.mk [(5,.vec 5000)] [(5000,.vec 3 1 (sortI (wf l f)).length fun (i:Nat)=>[iv ((sortI (wf l f)).getD i 0)])] 10064) ⟨tv,⟨⟨rfl,tv⟩,(t119 _ _),⟨(o16 hp x0 hx0 h1),(o17 hp x0 hx0 h1)⟩,⟨rfl,tv⟩,(fun i6=>tv)⟩,tv⟩ ?_
  refine swp_seq ?_
  refine sC (cs:=[(1,CallSpec.eq (c90b l f) [true])]) (kt:=[4]) (kh:=[]) (q:=True/\((zE (AV.vec 5000)/\True)/\Triple Try.prog 120 (c90b l f)/\(0 < (sortI (wf l f)).length/\(sortI (wf l f)).length<=65536)/\(zE (some (OB.vec 3 1 (sortI (wf l f)).length fun (i:Nat)=>[iv ((sortI (wf l f)).getD i 0)]))/\True) /\ ∀ (i7:Env),True)/\True/\True) (st':=ASt.mk [(4,aInts (compactI (sortI (wf l f))))] [] 10088) ⟨tv,⟨⟨rfl,tv⟩,(t120 _ _),⟨(o18 hp x0 hx0 h1),(o19 hp x0 hx0 h1)⟩,⟨rfl,tv⟩,(fun i7=>tv)⟩,tv,tv⟩ ?_
  refine swp_ret ?_
  exact rQ [] ((True/\True)/\(1=1/\(compactI (sortI (wf l f))).length=(whereP l f).length /\ ∀ (i8:Nat),i8 < (whereP l f).length -> [iv ((compactI (sortI (wf l f))).getD i8 0)] = [iv ((whereP l f).getD i8 0)])/\T3) ⟨⟨tv,tv⟩,⟨rfl,(o20 hp x0 hx0 h1),(fun i8=>(fun h9=>(o21 hp x0 hx0 h1 i8 h9)))⟩,rfl,rfl,rfl⟩
theorem t90 (l:List WayS) (f:Nat):Triple Try.prog 90 (s90 l f):=by
  have hs:(sortI (wf l f)).length=l.length:=by rw [sortI_len,wf_len]
  have hw:=wf_len l f
  apply w90
  all_goals (first
    | ((repeat intro _) <;> (try simp only [v0,v1,v2,v3,v4,v5,v6,v7,v8,v9,inI,fits,Go.Sh.small] at *) <;> first | (exact rfl) | omega | exact vz | (simp_all; done) | (simp_all; omega))
    | (intro hp x hx hl
       simp only [decide_eq_true_eq,decide_eq_false_iff_not] at hl
       have h1:=wfTo_len (l:=l) (f:=f) hx
       have h2:=hp.2.2 x
       first
       | omega
       | (rw [wfTo_succ (by omega),List.length_append]; rfl)
       | (intro i hi; rw [wfTo_succ (by omega)]; exact catF_one _ _ 0 (fun z=>[iv z]) rfl (fun _ _=>rfl) rfl hi)
       | (rw [wfTo_full (by omega)]; done)
       | (intro i hi; rw [wfTo_full (by omega)])))
abbrev q35_1 (r:Run) (f:Int) (C:Prop):Prop:=fits r->(!decide (openE r (isFound r f)=0))=false->C
theorem w35 (r:Run) (f:Int)
 (o0:fits r->(!decide (openE r (isFound r f)=0))->(whereS r f).length=0)
 (o1:q35_1 r f (f=(↑(f.toNat):Int)))
 (o2:q35_1 r f (0 < (openL r (isFound r f)).length))
 (o3:q35_1 r f ((openL r (isFound r f)).length<=729))
 (o4:q35_1 r f (∀ (i3:Nat),i3 < (openL r (isFound r f)).length->f.toNat < ((openL r (isFound r f)).getD i3 default).frm.length))
 (o5:q35_1 r f ((whereP (openL r (isFound r f)) f.toNat).length=(whereS r f).length))
 (o6:q35_1 r f (∀ (i6:Nat),i6 < (whereS r f).length -> [iv ((whereP (openL r (isFound r f)) f.toNat).getD i6 0)] = [iv ((whereS r f).getD i6 0)]))
 (o7:q35_1 r f (0=openE r (isFound r f))) :
  Triple Try.prog 35 (s35 r f):=by
 refine triple_of Try.func35 rfl Try.call35 T0_ok _ rfl rfl rfl rfl (Nat.le_of_ble_eq_true (by kernel_rfl)) (fun _ _ _ _ h=>h) ?_
 intro hp C hC _ hE
 obtain ⟨P,w0,E0,av,hA⟩:=C
 subst hC
 refine swp_seq ?_
 refine sQ (kt:=[1,2]) (kh:=[0]) (q:=tn 3) (st':=ASt.mk [(1,iv f),(2,.ptr 0 [])] [(0,.cells 25 (cRun r))] 24) (tp 3) ?_
 refine swp_seq ?_
 refine sC (cs:=[(3,CallSpec.eq (s85 r f) [true,true]),(4,CallSpec.eq (c35o r f) [true,true])]) (kt:=[1,6,7]) (kh:=[]) (q:=True/\True/\True/\((zE (AV.agg (cRun r))/\iv f=iv f/\True)/\Triple Try.prog 85 (s85 r f)/\fits r/\True /\ ∀ (i0:Env),True)/\((zE (AV.agg (cRun r))/\zE (bv (isFound r f))/\True)/\Triple Try.prog 78 (c35o r f)/\fits r/\True /\ ∀ (i1:Env),True)/\tn 5) (st':=ASt.mk [(1,iv f),(6,aWays (openL r (isFound r f))),(7,iv (openE r (isFound r f)))] [] 104) ⟨tv,tv,tv,⟨⟨rfl,rfl,tv⟩,(t85 (r) (f)),hp,tv,(fun i0=>tv)⟩,⟨⟨rfl,rfl,tv⟩,(t78 _ _),hp,tv,(fun i1=>tv)⟩,tp 5⟩ ?_
 refine swp_seq (swp_seq ?_)
 refine sQ (kt:=[1,6,7,17]) (kh:=[]) (q:=tn 2) (st':=ASt.mk [(1,iv f),(6,aWays (openL r (isFound r f))),(7,iv (openE r (isFound r f))),(17,bv !decide (openE r (isFound r f)=0))] [] 120) (tp 2) ?_
 refine swp_cond (!decide (openE r (isFound r f)=0)) (by kernel_rfl) (fun h2 => ?_) (fun h2 => ?_)
 ·refine swp_seq ?_
  refine sQ (kt:=[4,5]) (kh:=[]) (q:=tn 3) (st':=ASt.mk [(4,nilv),(5,iv (openE r (isFound r f)))] [] 144) (tp 3) ?_
  refine swp_ret ?_
  exact rQ [] ((True/\True/\True)/\((whereS r f).length=0/\(zM (iv (openE r (isFound r f))))/\True)/\T3) ⟨⟨tv,tv,tv⟩,⟨(o0 hp h2),⟨rfl,rfl⟩,tv⟩,rfl,rfl,rfl⟩
 ·refine swp_skip (swp_seq ?_)
  refine sC (cs:=[(2,CallSpec.eq (c35 r f) [true,false])]) (kt:=[4,5]) (kh:=[]) (q:=True/\True/\((zE (aWays (openL r (isFound r f)))/\iv f=iv (↑(f.toNat):Int)/\True)/\Triple Try.prog 90 (c35 r f)/\(0 < (openL r (isFound r f)).length/\(openL r (isFound r f)).length<=729 /\ ∀ (i3:Nat),i3 < (openL r (isFound r f)).length->f.toNat < ((openL r (isFound r f)).getD i3 default).frm.length)/\True /\ ∀ (i5:Env),True)/\tn 2) (st':=ASt.mk [(4,aInts (whereP (openL r (isFound r f)) f.toNat)),(5,iv 0)] [] 160) ⟨tv,tv,⟨⟨rfl,(congrArg iv (o1 hp h2)),tv⟩,(t90 _ _),⟨(o2 hp h2),(o3 hp h2),(fun i3=>(fun h4=>(o4 hp h2 i3 h4)))⟩,tv,(fun i5=>tv)⟩,tp 2⟩ ?_
  refine swp_ret ?_
  exact rQ [] ((True/\True/\True)/\((1=1/\(whereP (openL r (isFound r f)) f.toNat).length=(whereS r f).length /\ ∀ (i6:Nat),i6 < (whereS r f).length -> [iv ((whereP (openL r (isFound r f)) f.toNat).getD i6 0)] = [iv ((whereS r f).getD i6 0)])/\(zN (iv 0) (iv (openE r (isFound r f))))/\True)/\T3) ⟨⟨tv,tv,tv⟩,⟨⟨rfl,(o5 hp h2),(fun i6=>(fun h7=>(o6 hp h2 i6 h7)))⟩,⟨(congrArg iv (o7 hp h2)),rfl⟩,tv⟩,rfl,rfl,rfl⟩
theorem t35 (r:Run) (f:Int):Triple Try.prog 35 (s35 r f):=by
  apply w35
  all_goals (first
    | ((repeat intro _) <;> (try simp only [v0,v1,v2,v3,v4,v5,v6,v7,v8,v9,inI,fits,Go.Sh.small] at *) <;> first | (exact rfl) | omega | exact vz | (simp_all; done) | (simp_all; omega))
    | (intro _ h; rw [whereS,if_neg (openBad h)] <;> rfl)
    | (intro _ h
       have F:=openF h
       have h1:0<=f/\f < r.found.length:=by have:=F.isT; simp only [isFound,Go.Sh.within_iff] at this; omega
       have h2:=F.len
       have h3:=F.pos
       first
       | exact F.zero.symm
       | omega
       | (intro x hx; rw [F.frm x hx]; omega)
       | (rw [whereS,if_pos F.zero,F.eq]; done)
       | (intro x hx; rw [whereS,if_pos F.zero,F.eq])))
end Go.Ab
namespace Go.Ab
open Go Go.RowKit
theorem swp_cases {C:Ctx} {nt:Nat} {K:AX->ASt->Prop} {st:ASt} {c:Code} (b:Bool) (h1:b=true->SWP C nt c K st) (h2:b=false->SWP C nt c K st):SWP C nt c K st:=by
 cases b with
 | true=>exact h1 rfl
 | false=>exact h2 rfl
def hoIn (L:List (Nat × OB)):List (Nat × OB)->Prop
 | []=>True
 | p :: r=>Heap.of L p.1=some p.2/\hoIn L r
theorem hoIn_mem {L:List (Nat × OB)}:∀ {l:List (Nat × OB)},hoIn L l -> ∀ p ∈ l,Heap.of L p.1=some p.2:=by
 intro l
 induction l with
 | nil=>intro _ p hp; cases hp
 | cons q r ih =>
  intro h p hp
  cases hp with
  | head=>exact h.1
  | tail _ hp=>exact ih h.2 p hp
def retO (T:Tab) (rs:List ResultVar) (st:ASt) (res:AV) (hout:List (Nat × OB)):Prop :=
 match resVals T st rs with
 | some (q,rvs)=>q/\retAV rvs=res/\hoIn st.hp hout
 | none=>False
def RetO (C:Ctx) (nt:Nat) (T:Tab) (rs:List ResultVar) (res:AV) (hout:List (Nat × OB)):AX->ASt->Prop
 | .exit _,_=>False
 | _,st => ∃ st2,Ent C nt st st2/\retO T rs st2 res hout
def renI:List (Nat × Nat)->Nat->Nat
 | [],j=>j
 | p :: r,j=>if p.1=j then p.2 else renI r j
def renC (l:List (Nat × Nat)):AV->AV
 | .vec b => .vec (renI l b)
 | v=>v
def renV1 (l:List (Nat × Nat)):AV->AV
 | .agg cs => .agg (cs.map (renC l))
 | v=>renC l v
def renV (l:List (Nat × Nat)):AV->AV
 | .tup vs => .tup (vs.map (renV1 l))
 | v=>renV1 l v
def renB (l:List (Nat × Nat)):OB->OB
 | .vecx t sz n f j fj => .vecx t sz n f j (fj.map (renC l))
 | ob=>ob
def okC (ks:List Nat):AV->Bool
 | .vec b=>ks.contains b
 | v=>(ids v).isEmpty
def okV1 (ks:List Nat):AV->Bool
 | .agg cs=>cs.all (okC ks)
 | v=>okC ks v
def okV (ks:List Nat):AV->Bool
 | .tup vs=>vs.all (okV1 ks)
 | v=>okV1 ks v
def okB (ks:List Nat):OB->Bool
 | .vec _ _ _ _=>true
 | .vecx _ _ _ _ _ fj=>fj.all (okC ks) && noFnL fj
 | _=>false
structure OutSpec where
 args:List AV
 pre:Prop:=True
 res:AV
 hout:List (Nat × OB)
def OutSpec.at (s:OutSpec) (l:List (Nat × Nat)):CallSpec:={ args:=s.args,pre:=s.pre,res:=renV l s.res,hout:=s.hout.map (fun p=>(renI l p.1,renB l p.2)) }
theorem noDup_nodup:∀ {l:List Nat},noDup l=true->l.Nodup:=by
 intro l
 induction l with
 | nil=>intro _; exact List.nodup_nil
 | cons c l ih =>
  intro h
  obtain ⟨h1,h2⟩:=noDup_cons h
  exact List.nodup_cons.2 ⟨h1,ih h2⟩
structure Ren (l:List (Nat × Nat)) (E F:Env):Prop where
 M:∀ b o,E.M b=some o->F.M b=some o
 fns:F.fns=E.fns
 same:∀ c,c ∈ l.map (·.1)->F.blk (renI l c)=E.blk c/\F.hdr (renI l c)=E.hdr c
theorem renC_rel {l:List (Nat × Nat)} {E F:Env} (hr:Ren l E F) {v:AV} {u:Value} (ho:okC (l.map (·.1)) v=true) (h:Rel E true v u):Rel F true (renC l v) u:=by
 cases v with
 | vec b =>
  have hm:b ∈ l.map (·.1):=by simpa [okC] using ho
  cases h with
  | vec _ hh h1=>exact .vec _ (by rw [(hr.same b hm).2]; exact hh) h1
 | _ =>
  simp only [renC]
  simp only [okC,List.isEmpty_iff] at ho
  exact Rel.trim hr.M hr.fns h (fun _=>ho)
theorem renL_rel {l:List (Nat × Nat)} {E F:Env} (hr:Ren l E F):∀ {cs:List AV} {us:List Value},cs.all (okC (l.map (·.1)))=true->RelL E true cs us->RelL F true (cs.map (renC l)) us:=by
 intro cs
 induction cs with
 | nil=>intro us _ h; cases h; exact .nil
 | cons c cs ih =>
  intro us ho h
  simp only [List.all_cons,Bool.and_eq_true] at ho
  cases h with
  | cons h h1 hs=>exact .cons (renC_rel hr ho.1 h) h1 (ih ho.2 hs)
  | arr g hg h hs=>exact .arr g hg (fun i hi=>(h i hi).trim hr.M hr.fns) (ih ho.2 hs)
theorem renV1_rel {l:List (Nat × Nat)} {E F:Env} (hr:Ren l E F) {v:AV} {u:Value} (ho:okV1 (l.map (·.1)) v=true) (h:Rel E true v u):Rel F true (renV1 l v) u:=by
 cases v with
 | agg cs =>
  cases h with
  | agg hl=>exact .agg (renL_rel hr ho hl)
 | _ =>
  simp only [renV1]
  simp only [okV1] at ho
  exact renC_rel hr ho h
theorem renV_rel {l:List (Nat × Nat)} {E F:Env} (hr:Ren l E F) {v:AV} {u:Value} (ho:okV (l.map (·.1)) v=true) (h:Rel E true v u):Rel F true (renV l v) u:=by
 cases v with
 | tup vs =>
  cases h with
  | tup hl hk =>
   rename_i us
   refine .tup (by rw [List.length_map]; exact hl) fun k => ?_
   have h0:=hk k
   simp only [okV,List.all_eq_true] at ho
   by_cases hlt:k < vs.length
   ·have e1:(vs.map (renV1 l)).getD k .any=renV1 l (vs.getD k .any):=by
     simp [List.getD,List.getElem?_eq_getElem hlt]
    rw [e1]
    refine renV1_rel hr (ho _ ?_) h0
    simp [List.getD,List.getElem?_eq_getElem hlt]
   ·rw [List.getD_eq_getElem?_getD,List.getElem?_eq_none (by simpa using hlt)]
    exact .any _
 | _ =>
  simp only [renV]
  simp only [okV] at ho
  exact renV1_rel hr ho h
theorem renI_mem:∀ {l:List (Nat × Nat)} {c:Nat},c ∈ l.map (·.1)->(c,renI l c) ∈ l:=by
 intro l
 induction l with
 | nil=>intro c h; cases h
 | cons p r ih =>
  intro c h
  unfold renI
  split
  ·rename_i e; rw [← e]; exact List.mem_cons_self
  ·rename_i e
   refine List.mem_cons_of_mem _ (ih ?_)
   simp only [List.map_cons,List.mem_cons] at h
   rcases h with h | h
   ·exact absurd h.symm e
   ·exact h
def unI:List (Nat × Nat)->Nat->Option Nat
 | [],_=>none
 | p :: r,j=>if p.2=j then some p.1 else unI r j
theorem unI_of:∀ {l:List (Nat × Nat)},(l.map (·.2)).Nodup -> ∀ {c b:Nat},(c,b) ∈ l->unI l b=some c:=by
 intro l
 induction l with
 | nil=>intro _ c b h; cases h
 | cons p r ih =>
  intro hn c b h
  rw [List.map_cons,List.nodup_cons] at hn
  unfold unI
  cases h with
  | head=>rw [if_pos rfl]
  | tail _ h =>
   have:¬ p.2=b:=fun e=>hn.1 (by rw [e]; exact List.mem_map_of_mem (f:=fun x:Nat × Nat=>x.2) h)
   rw [if_neg this]
   exact ih hn.2 h
theorem unI_mem:∀ {l:List (Nat × Nat)} {c b:Nat},unI l b=some c->(c,b) ∈ l:=by
 intro l
 induction l with
 | nil=>intro c b h; cases h
 | cons p r ih =>
  intro c b h
  unfold unI at h
  split at h
  ·rename_i e; cases h; rw [← e]; exact List.mem_cons_self
  ·exact List.mem_cons_of_mem _ (ih h)
theorem triple_out {P:Program} {f:FuncId} {fn:Func} {c:Code} {T:Tab} (hf:P.funcs[f]? = some fn) (hb:fn.body=some c) (hcall:Callable P f) (hT:Tab.ok P T) (args:List AV) (pre:Prop) (res:AV) (hout:List (Nat × OB)) (l:List (Nat × Nat))
  (hargs:idsL args = []) (hn:args.length<=fn.ntmps) (hl1:l.map (·.1)=hout.map (·.1)) (hnd:(l.map (·.2)).Nodup) (hres:okV (hout.map (·.1)) res=true) (hob:hout.all (fun p=>okB (hout.map (·.1)) p.2)=true) (hnd1:noDup (hout.map (·.1))=true)
  (body:pre -> ∀ C:Ctx,C.P=P->(∀ j,C.E0.blk j=none/\C.E0.hdr j=none)->SWP C fn.ntmps c (RetO C fn.ntmps T fn.results.toList res hout) ⟨argsTm args 0,[],0⟩) :
  Triple P f ((⟨args,pre,res,hout⟩:OutSpec).at l):=by
 have hk:∀ p ∈ l,∃ ob,(p.1,ob) ∈ hout:=by
  intro p hp
  have:p.1 ∈ hout.map (·.1):=by rw [← hl1]; exact List.mem_map_of_mem (f:=fun x:Nat × Nat=>x.1) hp
  obtain ⟨q,hq,he⟩:=List.mem_map.1 this
  exact ⟨q.2,by rw [← he]; exact hq⟩
 replace hnd1:(l.map (·.1)).Nodup:=by rw [hl1]; exact noDup_nodup hnd1
 rw [← hl1] at hres
 replace hob:hout.all (fun p=>okB (l.map (·.1)) p.2 && (l.map (·.1)).contains p.1)=true:=by
  rw [List.all_eq_true] at hob ⊢
  intro p hp
  rw [hl1,hob p hp,Bool.true_and,List.contains_eq_mem]
  exact decide_eq_true (List.mem_map_of_mem (f:=fun x:Nat × OB=>x.1) hp)
 show Triple P f { args:=args,pre:=pre,res:=renV l res,hout:=hout.map (fun p=>(renI l p.1,renB l p.2)) }
 refine ⟨hcall,fun hpre E w vs _ hok hlen hrel hfresh => ?_⟩
 let E0:Env:={ E with blk:=fun _=>none,hdr:=fun _=>none }
 let C:Ctx:=calleeCtx P E0 w []
 have hok0:HeapOK C E0 (Heap.of []) w:=⟨rfl,rfl,rfl,Nat.le_refl _,fun _ _=>rfl,fun b o h=>hok.mem b o h,Env.le.refl _,fun b o h => .inl h,(fun i ob h=>by cases h),(fun i j k _ h=>absurd rfl h)⟩
 have htm:∀ t,Rel E0 true (look (argsTm args 0) t) ((vs.toArray ++ Array.replicate (fn.ntmps - vs.toArray.size) undef).getD t undef):=by
  intro t
  rw [look_args,if_pos (Nat.zero_le _),Nat.sub_zero]
  rcases Nat.lt_or_ge t vs.length with ht | ht
  ·have h1:(vs.toArray ++ Array.replicate (fn.ntmps - vs.toArray.size) undef).getD t undef=vs.getD t undef:=by
    simp only [Array.getD_eq_getD_getElem?,List.getD_eq_getElem?_getD]
    rw [Array.getElem?_append_left (by simpa using ht)]
    simp
   rw [h1]
   exact Rel.trim (E:=E) (F:=E0) (fun _ _ h=>h) rfl (hrel t) (fun _=>idsL_get hargs t)
  ·have hl':vs.length=args.length:=hlen
   rw [List.getD_eq_getElem?_getD,List.getElem?_eq_none (by omega)]
   exact .any _
 have hl':vs.length=args.length:=hlen
 have hsat:Sat C E0 fn.ntmps ⟨argsTm args 0,[],0⟩ w { tmps:=vs.toArray ++ Array.replicate (fn.ntmps - vs.toArray.size) undef,defers:=[] } :=
  ⟨⟨hok0,htm,rfl,by simp; omega⟩,fun j _=>⟨rfl,rfl⟩⟩
 have hsw:=body hpre C rfl (fun j=>⟨rfl,rfl⟩) E0 w _ hsat
 refine calls_of_wp hf hb (wp_mono hsw ?_)
 rintro e a' w' ⟨x,E1,st1,rfl,hs1,hk1⟩
 have fin:(∃ st2,Ent C fn.ntmps st1 st2/\retO T fn.results.toList st2 res hout)->a'.defers = [] /\ ∃ v,(results fn a'.tmps).run P w' = .ok v w'/\CallPost P { args:=args,pre:=pre,res:=renV l res,hout:=hout.map (fun p=>(renI l p.1,renB l p.2)) } E w (.returned v) w':=by
  rintro ⟨st2,hent,hq⟩
  obtain ⟨E',hs'⟩:=hent E1 w' a' hs1
  refine ⟨hs'.ok.defers,?_⟩
  unfold retO at hq
  split at hq
  ·rename_i q rvs hrv
   obtain ⟨hq0,hres0,hho⟩:=hq
   obtain ⟨us,hus,hul,hur⟩:=resVals_run (C:=C) hT hs' _ q rvs hrv hq0
   have hrun:=results_run (P:=P) hus
   refine ⟨_,hrun,?_⟩
   have hrv':Rel E' true (retAV rvs) (if h:us.length=1 then us[0] else .tuple us.toArray):=by
    cases rvs with
    | nil =>
     have:us = []:=List.eq_nil_of_length_eq_zero hul
     subst this
     exact .tup rfl (fun k=>hur k)
    | cons v r =>
     cases r with
     | nil =>
      have hul1:us.length=1:=hul
      rw [dif_pos hul1]
      have:=hur 0
      simp only [List.getD_cons_zero] at this
      rw [List.getD_eq_getElem?_getD,List.getElem?_eq_getElem (by omega)] at this
      exact this
     | cons v2 r =>
      have hne:¬ us.length=1:=by rw [hul]; simp
      rw [dif_neg hne]
      exact .tup (cs:=v :: v2 :: r) hul hur
   rw [hres0] at hrv'
   have hle:=hs'.ok.heap.le
   let F:Env:={ E with M:=E'.M,blk:=fun j=>match unI l j with | some c=>E'.blk c | none=>E.blk j,hdr:=fun j=>match unI l j with | some c=>E'.hdr c | none=>E.hdr j }
   have hfns:F.fns=E'.fns:=by
    show E.fns=E'.fns
    exact (hle.fns.symm:E0.fns=E'.fns)
   have hren:Ren l E' F:=by
    refine ⟨fun b o h=>h,hfns,fun c hc => ?_⟩
    have:=unI_of hnd (renI_mem hc)
    constructor
    ·show (match unI l (renI l c) with | some c=>E'.blk c | none=>E.blk (renI l c))=_
     rw [this]
    ·show (match unI l (renI l c) with | some c=>E'.hdr c | none=>E.hdr (renI l c))=_
     rw [this]
   have hinfo:∀ p ∈ hout,okB (l.map (·.1)) p.2=true/\p.1 ∈ l.map (·.1):=by
    intro p hp
    rw [List.all_eq_true] at hob
    have:=hob p hp
    simp only [Bool.and_eq_true,List.contains_eq_mem,decide_eq_true_eq] at this
    exact this
   have hfr:∀ j c,unI l j=some c->E.blk j=none/\E.hdr j=none:=by
    intro j c hj
    obtain ⟨ob,hob'⟩:=hk _ (unI_mem hj)
    have hm:c ∈ l.map (·.1):=(hinfo _ hob').2
    have h1:=unI_of hnd (renI_mem hm)
    have h2:=renI_mem hm
    have hjr:renI l c=j:=by
     have h3:=unI_mem hj
     -- both pairs have the same first part
     have key:∀ {l:List (Nat × Nat)},(l.map (·.1)).Nodup -> ∀ {c a b:Nat},(c,a) ∈ l->(c,b) ∈ l->a=b:=by
      intro l
      induction l with
      | nil=>intro _ c a b h; cases h
      | cons p r ih =>
       intro hn c a b ha hb
       rw [List.map_cons,List.nodup_cons] at hn
       cases ha with
       | head =>
        cases hb with
        | head=>rfl
        | tail _ hb=>exact absurd (List.mem_map_of_mem (f:=fun x:Nat × Nat=>x.1) hb) hn.1
       | tail _ ha =>
        cases hb with
        | head=>exact absurd (List.mem_map_of_mem (f:=fun x:Nat × Nat=>x.1) ha) hn.1
        | tail _ hb=>exact ih hn.2 ha hb
     exact key hnd1 h2 h3
    have hmem:(renI l c,renB l ob) ∈ hout.map (fun p=>(renI l p.1,renB l p.2)):=List.mem_map_of_mem (f:=fun p:Nat × OB=>(renI l p.1,renB l p.2)) hob'
    have:=hfresh _ hmem (fun q hq=>by cases hq)
    rw [hjr] at this
    exact this
   have lF:E.le F:=by
    refine ⟨fun b o h=>hle.M b o h,fun b k h => ?_,fun b u h => ?_,rfl⟩
    ·show (match unI l b with | some c=>E'.blk c | none=>E.blk b)=some k
     cases e:unI l b with
     | none=>exact h
     | some c=>rw [(hfr b c e).1] at h; cases h
    ·show (match unI l b with | some c=>E'.hdr c | none=>E.hdr b)=some u
     cases e:unI l b with
     | none=>exact h
     | some c=>rw [(hfr b c e).2] at h; cases h
   have hget:∀ i ob,Heap.of (hout.map (fun p=>(renI l p.1,renB l p.2))) i=some ob -> ∃ c ob0,unI l i=some c/\ob=renB l ob0/\Heap.of st2.hp c=some ob0/\okB (l.map (·.1)) ob0=true/\renI l c=i:=by
    intro i ob hi
    have hm:=Heap.of_mem hi
    obtain ⟨p,hp,he⟩:=List.mem_map.1 hm
    cases he
    exact ⟨p.1,p.2,unI_of hnd (renI_mem (hinfo p hp).2),rfl,hoIn_mem hho p hp,(hinfo p hp).1,rfl⟩
   have h':=hs'.ok.heap
   have av1:∀ x,C.avail x->(calleeCtx P E w []).avail x:=by
    rintro x (h | ⟨q,hq,_⟩)
    ·exact .inl h
    ·cases hq
   refine ⟨_,F,rfl,?_,renV_rel hren hres hrv',fun j hj => ?_⟩
   ·refine ⟨h'.os,h'.tape,h'.output,h'.size,fun x hx=>h'.pres x (fun h=>hx (av1 x h)),fun x o h=>h'.mem x o h,lF,fun x o h => ?_,fun i ob hi => ?_,fun i j y hij hi hj hiy hjy => ?_⟩
    ·rcases h'.ext x o h with h | h
     ·exact .inl h
     ·exact .inr (av1 x h)
    ·obtain ⟨c,ob0,hc,rfl,hst,hok',hri⟩:=hget i ob hi
     have hown:=h'.own c ob0 hst
     have hcb:F.blk i=E'.blk c:=by
      show (match unI l i with | some c=>E'.blk c | none=>E.blk i)=_
      rw [hc]
     have hch:F.hdr i=E'.hdr c:=by
      show (match unI l i with | some c=>E'.hdr c | none=>E.hdr i)=_
      rw [hc]
     cases ob0 with
     | vec t sz n f =>
      obtain ⟨hd,g,hh,ho,hgl,hgr,hbk,hav⟩:=hown
      exact ⟨hd,g,by rw [hch]; exact hh,ho,hgl,fun i hi=>RelL.trim (E:=E') (F:=F) (fun _ _ h=>h) hfns (hgr i hi),by rw [hcb]; exact hbk,fun k hk=>⟨av1 k (hav k hk).1,(hav k hk).2⟩⟩
     | vecx t sz n f j fj =>
      obtain ⟨hd,g,hh,ho,hgl,hgr,hgj,hbk,hav⟩:=hown
      simp only [okB,Bool.and_eq_true] at hok'
      exact ⟨hd,g,by rw [hch]; exact hh,ho,hgl,fun i hi hij=>RelL.trim (E:=E') (F:=F) (fun _ _ h=>h) hfns (hgr i hi hij),fun h=>renL_rel hren hok'.1 (hgj h),by rw [hcb]; exact hbk,fun k hk=>⟨av1 k (hav k hk).1,(hav k hk).2⟩⟩
     | _=>cases hok'
    ·have get:∀ i,Heap.of (hout.map (fun p=>(renI l p.1,renB l p.2))) i ≠ none->F.blk i=some y -> ∃ c,unI l i=some c/\Heap.of st2.hp c ≠ none/\E'.blk c=some y/\renI l c=i:=by
      intro i hi hiy
      cases e:Heap.of (hout.map (fun p=>(renI l p.1,renB l p.2))) i with
      | none=>exact absurd e hi
      | some ob =>
       obtain ⟨c,ob0,hc,rfl,hst,hok',hri⟩:=hget i ob e
       refine ⟨c,hc,by rw [hst]; simp,?_,hri⟩
       have:F.blk i=E'.blk c:=by
        show (match unI l i with | some c=>E'.blk c | none=>E.blk i)=_
        rw [hc]
       rw [← this]; exact hiy
     obtain ⟨c1,_,n1,k1,r1⟩:=get i hi hiy
     obtain ⟨c2,_,n2,k2,r2⟩:=get j hj hjy
     exact h'.sep c1 c2 y (fun e=>hij (by rw [← r1,← r2,e])) n1 n2 k1 k2
   ·have:unI l j=none:=by
     cases e:unI l j with
     | none=>rfl
     | some c =>
      obtain ⟨ob,hob'⟩:=hk _ (unI_mem e)
      have hm:c ∈ l.map (·.1):=(hinfo _ hob').2
      exfalso
      have hmem:(renI l c,renB l ob) ∈ hout.map (fun p=>(renI l p.1,renB l p.2)):=List.mem_map_of_mem (f:=fun p:Nat × OB=>(renI l p.1,renB l p.2)) hob'
      refine hj _ hmem ?_
      show renI l c=j
      have h2:=renI_mem hm
      have h3:=unI_mem e
      have key:∀ {l:List (Nat × Nat)},(l.map (·.1)).Nodup -> ∀ {c a b:Nat},(c,a) ∈ l->(c,b) ∈ l->a=b:=by
       intro l
       induction l with
       | nil=>intro _ c a b h; cases h
       | cons p r ih =>
        intro hn c a b ha hb
        rw [List.map_cons,List.nodup_cons] at hn
        cases ha with
        | head =>
         cases hb with
         | head=>rfl
         | tail _ hb=>exact absurd (List.mem_map_of_mem (f:=fun x:Nat × Nat=>x.1) hb) hn.1
        | tail _ ha =>
         cases hb with
         | head=>exact absurd (List.mem_map_of_mem (f:=fun x:Nat × Nat=>x.1) ha) hn.1
         | tail _ hb=>exact ih hn.2 ha hb
      exact key hnd1 h2 h3
    constructor
    ·show (match unI l j with | some c=>E'.blk c | none=>E.blk j)=_
     rw [this]
    ·show (match unI l j with | some c=>E'.hdr c | none=>E.hdr j)=_
     rw [this]
  ·exact hq.elim
 cases x with
 | normal=>exact fin hk1
 | ret=>exact fin hk1
 | exit id=>exact hk1.elim
section
variable {C:Ctx} {nt:Nat} {K:AX->ASt->Prop} {st:ASt}
theorem ret_o {T:Tab} {rs:List ResultVar} {res:AV} {hout:List (Nat × OB)} (st2:ASt) (he:Ent C nt st st2) (q:Prop) (hq:retO T rs st2 res hout=q) (h:q):RetO C nt T rs res hout .ret st:=⟨st2,he,by rw [hq]; exact h⟩
end
end Go.Ab
namespace Go.Sh
def eqN (i j:Nat):Bool:=decide (i=j)
theorem eqN_t {i j:Nat} (h:eqN i j=true):i=j:=of_decide_eq_true h
theorem eqN_f {i j:Nat} (h:eqN i j=false):i ≠ j:=of_decide_eq_false h
def chLen (r:Run) (j i:Nat):Nat:=if j < i then (mach r j).changes.length else 0
def nwLen (r:Run) (j i:Nat):Nat:=if j < i then (fnd r j).new.length else 0
theorem chLen_self (r:Run) (j:Nat):chLen r j (j + 1)=(mach r j).changes.length:=if_pos (Nat.lt_succ_self j)
theorem chLen_other {r:Run} {j i:Nat} (h:i ≠ j):chLen r j (i + 1)=chLen r j i:=by
 unfold chLen
 by_cases h1:j < i
 ·rw [if_pos h1,if_pos (by omega)]
 ·rw [if_neg h1,if_neg (by omega)]
theorem nwLen_self (r:Run) (j:Nat):nwLen r j (j + 1)=(fnd r j).new.length:=if_pos (Nat.lt_succ_self j)
theorem nwLen_other {r:Run} {j i:Nat} (h:i ≠ j):nwLen r j (i + 1)=nwLen r j i:=by
 unfold nwLen
 by_cases h1:j < i
 ·rw [if_pos h1,if_pos (by omega)]
 ·rw [if_neg h1,if_neg (by omega)]
end Go.Sh
namespace Go.Ab
open Go Go.RowKit Go.Proofs Go.Sh Go.En
def focS:CallSpec:={ args:=[],res := .any }
def ou20 (r:Run) (jm jf:Nat):OutSpec:={ args:=[vRun r],pre:=small r,res := .agg [iv r.plates,iv r.last,.vec 0,.vec 1],hout:=[(0,.vecx 42 2 r.machines.length (fun k=>cMach (mach r k)) jm [.vec 2,iv (mach r jm).rate]),(1,.vecx 32 3 r.found.length (fun k=>cFnd (fnd r k)) jf [iv (fnd r jf).minute,.vec 3,aInts (fnd r jf).frm]),(2,.vec 37 2 (chLen r jm r.machines.length) (fun p=>cSpan (chg (mach r jm) p))),(3,.vec 3 1 (nwLen r jf r.found.length) (fun p=>[iv ((fnd r jf).new.getD p 0)]))] }
def h20xa (r:Run) (jm jf:Nat):Hint:={ X:=Nat,M:=fun i=>[(4,iv i)],H:=fun i=>[(56,.cells 25 [iv r.plates,iv r.last,.vec 5000,nilv]),(5000,.vecx 42 2 i (fun k=>cMach (mach r k)) jm [.vec 5002,iv (mach r jm).rate]),(5002,.vec 37 2 (chLen r jm i) (fun p=>cSpan (chg (mach r jm) p)))],I:=fun i=>i<=r.machines.length,mu:=fun i=>r.machines.length - i,x0:=(0:Nat),nx:=fun i=>i + 1 }
def h20xb (r:Run) (jm jf:Nat):Hint:={ X:=Nat,M:=fun i=>[(5,iv i)],H:=fun i=>[(56,.cells 25 [iv r.plates,iv r.last,.vec 5000,.vec 5001]),(5000,.vecx 42 2 r.machines.length (fun k=>cMach (mach r k)) jm [.vec 5002,iv (mach r jm).rate]),(5002,.vec 37 2 (chLen r jm r.machines.length) (fun p=>cSpan (chg (mach r jm) p))),(5001,.vecx 32 3 i (fun k=>cFnd (fnd r k)) jf [iv (fnd r jf).minute,.vec 5003,aInts (fnd r jf).frm]),(5003,.vec 3 1 (nwLen r jf i) (fun p=>[iv ((fnd r jf).new.getD p 0)]))],I:=fun i=>i<=r.found.length,mu:=fun i=>r.found.length - i,x0:=(0:Nat),nx:=fun i=>i + 1 }
def f20 (r:Run) (jm jf:Nat) (i:Nat):CallSpec:=focS
end Go.Ab
namespace Go.Ab
open Go Go.RowKit Go.Proofs Go.Sh Go.En
abbrev zo20_1 (r:Run) (jm:Nat) (jf:Nat):LoopAnn:=Hint.ann (h20xa r jm jf) [(1,AV.ptr 0 []),(2,AV.ptr 8 []),(3,AV.ptr 56 [])] [(0,OB.cells 25 (cRun r)),(8,OB.cells 25 [iv 0,iv 0,nilv,nilv])] 10080
abbrev zo20_2 (r:Run) (jm:Nat) (jf:Nat):LoopAnn:=Hint.ann (h20xb r jm jf) [(1,AV.ptr 0 []),(2,AV.ptr 8 []),(3,AV.ptr 56 [])] [(0,OB.cells 25 (cRun r)),(8,OB.cells 25 [iv 0,iv 0,nilv,nilv])] 20128
abbrev qo20_1 (r:Run) (jm:Nat) (jf:Nat) (C:Nat->Prop):Prop:=small r -> ∀ (x0:Nat),x0<=r.machines.length->decide ((x0:Int) < (↑(r.machines.length):Int))=true->C x0
abbrev qo20_2 (r:Run) (jm:Nat) (jf:Nat) (C:Nat->Prop):Prop:=qo20_1 r jm jf fun x0=>eqN x0 jm=true->C x0
abbrev qo20_3 (r:Run) (jm:Nat) (jf:Nat) (C:Nat->Prop):Prop:=qo20_1 r jm jf fun x0=>eqN x0 jm=false->C x0
abbrev qo20_4 (r:Run) (jm:Nat) (jf:Nat) (C:Nat->Prop):Prop:=small r -> ∀ (x0:Nat),x0<=r.machines.length->decide ((x0:Int) < (↑(r.machines.length):Int))=false->C x0
abbrev qo20_5 (r:Run) (jm:Nat) (jf:Nat) (C:Nat->Nat->Prop):Prop:=qo20_4 r jm jf fun x0 => ∀ (x13:Nat),x13<=r.found.length->decide ((x13:Int) < (↑(r.found.length):Int))=true->C x0 x13
abbrev qo20_6 (r:Run) (jm:Nat) (jf:Nat) (C:Nat->Nat->Prop):Prop:=qo20_5 r jm jf fun x0 x13=>eqN x13 jf=true->C x0 x13
abbrev qo20_7 (r:Run) (jm:Nat) (jf:Nat) (C:Nat->Nat->Prop):Prop:=qo20_5 r jm jf fun x0 x13=>eqN x13 jf=false->C x0 x13
theorem wo20 (r:Run) (jm:Nat) (jf:Nat)
 (o0:small r->0=(↑0:Int))
 (o1:small r->chLen r jm 0=0)
 (o2:small r->0<=List.length (Run.machines r))
 (o3:qo20_2 r jm jf fun x0=>0<=(x0:Int))
 (o4:qo20_2 r jm jf fun x0=>(x0:Int) < (↑(r.machines.length):Int))
 (o5:qo20_2 r jm jf fun x0=>0 + (mach r x0).changes.length<=65536)
 (o6:qo20_2 r jm jf fun x0=>0<=(x0:Int))
 (o7:qo20_2 r jm jf fun x0=>(x0:Int) < (↑(r.machines.length):Int))
 (o8:qo20_2 r jm jf fun x0=>x0 + 1<=65536)
 (o9:qo20_2 r jm jf fun x0=>jm=x0)
 (o10:qo20_2 r jm jf fun x0=>inI ((x0:Int) + 1))
 (o11:qo20_2 r jm jf fun x0=>(x0:Int) + 1=(↑(x0 + 1):Int))
 (o12:qo20_2 r jm jf fun x0=>(mach r x0).rate=(mach r jm).rate)
 (o13:qo20_2 r jm jf fun x0=>0 + (mach r x0).changes.length=chLen r jm (x0 + 1))
 (o14:qo20_2 r jm jf fun x0 => ∀ (i6:Nat),i6 < 0 + (mach r x0).changes.length->cSpan ((mach r x0).changes.getD i6 default)=cSpan (chg (mach r jm) i6))
 (o15:qo20_2 r jm jf fun x0=>x0 + 1<=r.machines.length)
 (o16:qo20_2 r jm jf fun x0=>r.machines.length - (x0 + 1) < r.machines.length - x0)
 (o17:qo20_3 r jm jf fun x0=>0<=(x0:Int))
 (o18:qo20_3 r jm jf fun x0=>(x0:Int) < (↑(r.machines.length):Int))
 (o19:qo20_3 r jm jf fun x0=>0 + (mach r x0).changes.length<=65536)
 (o20:qo20_3 r jm jf fun x0=>0<=(x0:Int))
 (o21:qo20_3 r jm jf fun x0=>(x0:Int) < (↑(r.machines.length):Int))
 (o22:qo20_3 r jm jf fun x0=>x0 + 1<=65536)
 (o23:qo20_3 r jm jf fun x0=>jm < x0 ∨ x0 + 1<=jm)
 (o24:qo20_3 r jm jf fun x0=>inI ((x0:Int) + 1))
 (o25:qo20_3 r jm jf fun x0=>(x0:Int) + 1=(↑(x0 + 1):Int))
 (o26:qo20_3 r jm jf fun x0 => ∀ (i8:Nat),i8 < x0 + 1->i8 ≠ jm->catF x0 (fun (k:Nat)=>cMach (mach r k)) (fun (j:Nat)=>List.getD [[AV.sl 2 (0 + (mach r x0).changes.length) fun (i:Nat)=>cSpan ((mach r x0).changes.getD i default),iv (mach r x0).rate]] j (TI.za ti42)) i8=cMach (mach r i8))
 (o27:qo20_3 r jm jf fun x0=>chLen r jm x0=chLen r jm (x0 + 1))
 (o28:qo20_3 r jm jf fun x0=>x0 + 1<=r.machines.length)
 (o29:qo20_3 r jm jf fun x0=>r.machines.length - (x0 + 1) < r.machines.length - x0)
 (o30:qo20_4 r jm jf fun x0=>0=(↑0:Int))
 (o31:qo20_4 r jm jf fun x0=>x0=r.machines.length)
 (o32:qo20_4 r jm jf fun x0=>chLen r jm x0=chLen r jm r.machines.length)
 (o33:qo20_4 r jm jf fun x0=>nwLen r jf 0=0)
 (o34:qo20_4 r jm jf fun x0=>0<=r.found.length)
 (o35:qo20_5 r jm jf fun x0 x13=>0<=(x13:Int))
 (o36:qo20_5 r jm jf fun x0 x13=>(x13:Int) < (↑(r.found.length):Int))
 (o37:qo20_6 r jm jf fun x0 x13=>0 + (fnd r x13).new.length<=65536)
 (o38:qo20_6 r jm jf fun x0 x13=>0 + (fnd r x13).frm.length<=65536)
 (o39:qo20_6 r jm jf fun x0 x13=>x13 + 1<=65536)
 (o40:qo20_6 r jm jf fun x0 x13=>jf=x13)
 (o41:qo20_6 r jm jf fun x0 x13=>inI ((x13:Int) + 1))
 (o42:qo20_6 r jm jf fun x0 x13=>(x13:Int) + 1=(↑(x13 + 1):Int))
 (o43:qo20_6 r jm jf fun x0 x13=>(fnd r x13).minute=(fnd r jf).minute)
 (o44:qo20_6 r jm jf fun x0 x13=>0 + (fnd r x13).frm.length=(fnd r jf).frm.length)
 (o45:qo20_6 r jm jf fun x0 x13 => ∀ (i27:Nat),i27 < (fnd r jf).frm.length -> [iv ((fnd r x13).frm.getD i27 0)] = [iv ((fnd r jf).frm.getD i27 0)])
 (o46:qo20_6 r jm jf fun x0 x13=>0 + (fnd r x13).new.length=nwLen r jf (x13 + 1))
 (o47:qo20_6 r jm jf fun x0 x13 => ∀ (i29:Nat),i29 < 0 + (fnd r x13).new.length -> [iv ((fnd r x13).new.getD i29 0)] = [iv ((fnd r jf).new.getD i29 0)])
 (o48:qo20_6 r jm jf fun x0 x13=>x13 + 1<=r.found.length)
 (o49:qo20_6 r jm jf fun x0 x13=>r.found.length - (x13 + 1) < r.found.length - x13)
 (o50:qo20_7 r jm jf fun x0 x13=>0 + (fnd r x13).new.length<=65536)
 (o51:qo20_7 r jm jf fun x0 x13=>0 + (fnd r x13).frm.length<=65536)
 (o52:qo20_7 r jm jf fun x0 x13=>x13 + 1<=65536)
 (o53:qo20_7 r jm jf fun x0 x13=>jf < x13 ∨ x13 + 1<=jf)
 (o54:qo20_7 r jm jf fun x0 x13=>inI ((x13:Int) + 1))
 (o55:qo20_7 r jm jf fun x0 x13=>(x13:Int) + 1=(↑(x13 + 1):Int))
 (o56:qo20_7 r jm jf fun x0 x13 => ∀ (i34:Nat),i34 < x13 + 1->i34 ≠ jf->catF x13 (fun (k:Nat)=>cFnd (fnd r k)) (fun (j:Nat)=>List.getD [[iv (fnd r x13).minute,AV.sl 1 (0 + (fnd r x13).new.length) fun (i:Nat)=>[iv ((fnd r x13).new.getD i 0)],AV.sl 1 (0 + (fnd r x13).frm.length) fun (i:Nat)=>[iv ((fnd r x13).frm.getD i 0)]]] j (TI.za ti32)) i34=cFnd (fnd r i34))
 (o57:qo20_7 r jm jf fun x0 x13=>nwLen r jf x13=nwLen r jf (x13 + 1))
 (o58:qo20_7 r jm jf fun x0 x13=>x13 + 1<=r.found.length)
 (o59:qo20_7 r jm jf fun x0 x13=>r.found.length - (x13 + 1) < r.found.length - x13)
 (o60:qo20_4 r jm jf fun x0 => ∀ (x13:Nat),x13<=r.found.length->decide ((x13:Int) < (↑(r.found.length):Int))=false->x13=r.found.length)
 (o61:qo20_4 r jm jf fun x0 => ∀ (x13:Nat),x13<=r.found.length->decide ((x13:Int) < (↑(r.found.length):Int))=false->nwLen r jf x13=nwLen r jf r.found.length)
  (l:List (Nat × Nat)) (hl:l.map (·.1)=(OutSpec.hout (ou20 r jm jf)).map (·.1)) (hnd:(l.map (·.2)).Nodup) :
  Triple Try.prog 20 (OutSpec.at (ou20 r jm jf) l):=by
 refine triple_out Try.func20 rfl Try.call20 T0_ok _ _ _ _ l rfl (Nat.le_of_ble_eq_true (by kernel_rfl)) hl hnd (by kernel_rfl) (by kernel_rfl) (by kernel_rfl) ?_
 intro hp C hC hE
 obtain ⟨P,w0,E0,av,hA⟩:=C
 subst hC
 refine swp_seq ?_
 refine sQ (kt:=[1,2]) (kh:=[0,8]) (q:=tn 2) (st':=ASt.mk [(1,.ptr 0 []),(2,.ptr 8 [])] [(0,.cells 25 (cRun r)),(8,.cells 25 [iv 0,iv 0,nilv,nilv])] 16) (tp 2) ?_
 refine swp_seq ?_
 refine sQ (kt:=[1,2,3]) (kh:=[0,8,56]) (q:=tn 7) (st':=ASt.mk [(1,.ptr 0 []),(2,.ptr 8 []),(3,.ptr 56 [])] [(0,.cells 25 (cRun r)),(8,.cells 25 [iv 0,iv 0,nilv,nilv]),(56,.cells 25 [iv r.plates,iv r.last,nilv,nilv])] 72) (tp 7) ?_
 refine swp_seq (swp_seq ?_)
 refine sQ (kt:=[1,2,3,4]) (kh:=[0,8,56]) (q:=True/\True) (st':=ASt.mk [(1,.ptr 0 []),(2,.ptr 8 []),(3,.ptr 56 []),(4,iv 0)] [(0,.cells 25 (cRun r)),(8,.cells 25 [iv 0,iv 0,nilv,nilv]),(56,.cells 25 [iv r.plates,iv r.last,nilv,nilv])] 80) ⟨tv,tv⟩ ?_
 refine swp_block ?_
 refine swp_loopA (zo20_1 r jm jf) (eQ hE [] [(0,.same 0),(8,.same 8),(56,.same 56),(5000,.nil),(5002,.nil)] [] [0,8] (((zP 0)/\(zP 8)/\(zP 56)/\(zN (iv 0) (iv (↑0:Int)))/\True)/\((zT (OB.cells 25 (cRun r)))/\(zT (OB.cells 25 [iv 0,iv 0,nilv,nilv]))/\(25=25/\((zM (iv r.plates))/\(zM (iv r.last))/\zE (some Src.nil)/\(zM nilv)/\True)/\true=true)/\0=0/\chLen r jm 0=0/\True)/\T2) ⟨⟨⟨rfl,rfl⟩,⟨rfl,rfl⟩,⟨rfl,rfl⟩,⟨(congrArg iv (o0 hp)),rfl⟩,tv⟩,⟨⟨rfl,rfl⟩,⟨rfl,rfl⟩,⟨rfl,⟨⟨rfl,rfl⟩,⟨rfl,rfl⟩,rfl,⟨rfl,rfl⟩,tv⟩,rfl⟩,rfl,(o1 hp),tv⟩,rfl,rfl⟩) (o2 hp) (fun (x0:Nat) hx0 => ?_)
 refine swp_seq (swp_seq ?_)
 refine sQ (kt:=[1,2,3,4,16]) (kh:=[0,8,56,5000,5002]) (q:=tn 5) (st':=ASt.mk [(1,.ptr 0 []),(2,.ptr 8 []),(3,.ptr 56 []),(4,iv (x0:Int)),(16,bv (decide ((x0:Int) < (↑(r.machines.length):Int))))] [(0,.cells 25 (cRun r)),(8,.cells 25 [iv 0,iv 0,nilv,nilv]),(56,.cells 25 [iv r.plates,iv r.last,.vec 5000,nilv]),(5000,.vecx 42 2 x0 (fun (k:Nat)=>cMach (mach r k)) jm [.vec 5002,iv (mach r jm).rate]),(5002,.vec 37 2 (chLen r jm x0) fun (p:Nat)=>cSpan (chg (mach r jm) p))] 10120) (tp 5) ?_
 refine swp_cond (decide ((x0:Int) < (↑(r.machines.length):Int))) (by kernel_rfl) (fun h1 => ?_) (fun h1 => ?_)
 ·refine swp_skip (swp_seq (swp_block ?_))
  refine swp_cases (eqN x0 jm) (fun h2 => ?_) (fun h2 => ?_)
  ·refine sC (cs:=[(17,focS),(18,focS)]) (kt:=[1,2,3,4]) (kh:=[0,8,56,10264,10192]) (q:=True/\True/\True/\True/\True/\True/\(0<=(x0:Int)/\(x0:Int) < (↑(r.machines.length):Int))/\True/\True/\0 + (mach r x0).changes.length<=65536/\True/\True/\True/\(0<=(x0:Int)/\(x0:Int) < (↑(r.machines.length):Int))/\True/\True/\True/\True/\(x0 + 1<=65536/\jm=x0)/\tn 2) (st':=ASt.mk [(1,.ptr 0 []),(2,.ptr 8 []),(3,.ptr 56 []),(4,iv (x0:Int))] [(0,.cells 25 (cRun r)),(8,.cells 25 [iv 0,iv 0,nilv,nilv]),(56,.cells 25 [iv r.plates,iv r.last,.vec 10264,nilv]),(10264,.vecx 42 2 (x0 + 1) (fun (k:Nat)=>cMach (mach r k)) jm [.vec 10192,iv (mach r x0).rate]),(10192,.vec 37 2 (0 + (mach r x0).changes.length) fun (i:Nat)=>cSpan ((mach r x0).changes.getD i default))] 10288) ⟨tv,tv,tv,tv,tv,tv,⟨(o3 hp x0 hx0 h1 h2),(o4 hp x0 hx0 h1 h2)⟩,tv,tv,(o5 hp x0 hx0 h1 h2),tv,tv,tv,⟨(o6 hp x0 hx0 h1 h2),(o7 hp x0 hx0 h1 h2)⟩,tv,tv,tv,tv,⟨(o8 hp x0 hx0 h1 h2),(o9 hp x0 hx0 h1 h2)⟩,tp 2⟩ ?_
   refine sQ (kt:=[1,2,3,4]) (kh:=[0,8,56,10264,10192]) (q:=True/\inI ((x0:Int) + 1)/\True/\True) (st':=ASt.mk [(1,.ptr 0 []),(2,.ptr 8 []),(3,.ptr 56 []),(4,iv ((x0:Int) + 1))] [(0,.cells 25 (cRun r)),(8,.cells 25 [iv 0,iv 0,nilv,nilv]),(56,.cells 25 [iv r.plates,iv r.last,.vec 10264,nilv]),(10264,.vecx 42 2 (x0 + 1) (fun (k:Nat)=>cMach (mach r k)) jm [.vec 10192,iv (mach r x0).rate]),(10192,.vec 37 2 (0 + (mach r x0).changes.length) fun (i:Nat)=>cSpan ((mach r x0).changes.getD i default))] 10312) ⟨tv,(o10 hp x0 hx0 h1 h2),tv,tv⟩ ?_
   exact loop_next (zo20_1 r jm jf) x0 (eQ hE [] [(0,.same 0),(8,.same 8),(56,.same 56),(5000,.same 10264),(5002,.same 10192)] [] [0,8] (((zP 0)/\(zP 8)/\(zP 56)/\(zN (iv ((x0:Int) + 1)) (iv (↑(x0 + 1):Int)))/\True)/\((zT (OB.cells 25 (cRun r)))/\(zT (OB.cells 25 [iv 0,iv 0,nilv,nilv]))/\(25=25/\((zM (iv r.plates))/\(zM (iv r.last))/\zE (some (Src.same 10264))/\(zM nilv)/\True)/\true=true)/\(42=42/\2=2/\x0 + 1=x0 + 1/\jm=jm/\(∀ (i3:Nat),i3 < x0 + 1->i3 ≠ jm->cMach (mach r i3)=cMach (mach r i3))/\(zE (some (Src.same 10192))/\(zN (iv (mach r x0).rate) (iv (mach r jm).rate))/\True)/\true=true)/\(37=37/\2=2/\0 + (mach r x0).changes.length=chLen r jm (x0 + 1) /\ ∀ (i6:Nat),i6 < 0 + (mach r x0).changes.length->cSpan ((mach r x0).changes.getD i6 default)=cSpan (chg (mach r jm) i6))/\True)/\T2) ⟨⟨⟨rfl,rfl⟩,⟨rfl,rfl⟩,⟨rfl,rfl⟩,⟨(congrArg iv (o11 hp x0 hx0 h1 h2)),rfl⟩,tv⟩,⟨⟨rfl,rfl⟩,⟨rfl,rfl⟩,⟨rfl,⟨⟨rfl,rfl⟩,⟨rfl,rfl⟩,rfl,⟨rfl,rfl⟩,tv⟩,rfl⟩,⟨rfl,rfl,rfl,rfl,(fun i3=>(fun h4=>(fun h5=>rfl))),⟨rfl,⟨(congrArg iv (o12 hp x0 hx0 h1 h2)),rfl⟩,tv⟩,rfl⟩,⟨rfl,rfl,(o13 hp x0 hx0 h1 h2),(fun i6=>(fun h7=>(o14 hp x0 hx0 h1 h2 i6 h7)))⟩,tv⟩,rfl,rfl⟩) (o15 hp x0 hx0 h1 h2) (o16 hp x0 hx0 h1 h2)
  ·refine sQ (kt:=[1,2,3,4]) (kh:=[0,8,56,10264,5002]) (q:=True/\True/\True/\True/\True/\True/\(0<=(x0:Int)/\(x0:Int) < (↑(r.machines.length):Int))/\True/\True/\0 + (mach r x0).changes.length<=65536/\True/\True/\True/\(0<=(x0:Int)/\(x0:Int) < (↑(r.machines.length):Int))/\True/\True/\True/\True/\(x0 + 1<=65536/\(jm < x0 ∨ x0 + 1<=jm))/\tn 2) (st':=ASt.mk [(1,.ptr 0 []),(2,.ptr 8 []),(3,.ptr 56 []),(4,iv (x0:Int))] [(0,.cells 25 (cRun r)),(8,.cells 25 [iv 0,iv 0,nilv,nilv]),(56,.cells 25 [iv r.plates,iv r.last,.vec 10264,nilv]),(10264,.vecx 42 2 (x0 + 1) (catF x0 (fun (k:Nat)=>cMach (mach r k)) fun (j:Nat)=>List.getD [[.sl 2 (0 + (mach r x0).changes.length) fun (i:Nat)=>cSpan ((mach r x0).changes.getD i default),iv (mach r x0).rate]] j (TI.za ti42)) jm [.vec 5002,iv (mach r jm).rate]),(5002,.vec 37 2 (chLen r jm x0) fun (p:Nat)=>cSpan (chg (mach r jm) p))] 10288) ⟨tv,tv,tv,tv,tv,tv,⟨(o17 hp x0 hx0 h1 h2),(o18 hp x0 hx0 h1 h2)⟩,tv,tv,(o19 hp x0 hx0 h1 h2),tv,tv,tv,⟨(o20 hp x0 hx0 h1 h2),(o21 hp x0 hx0 h1 h2)⟩,tv,tv,tv,tv,⟨(o22 hp x0 hx0 h1 h2),(o23 hp x0 hx0 h1 h2)⟩,tp 2⟩ ?_
   refine sQ (kt:=[1,2,3,4]) (kh:=[0,8,56,10264,5002]) (q:=True/\inI ((x0:Int) + 1)/\True/\True) (st':=ASt.mk [(1,.ptr 0 []),(2,.ptr 8 []),(3,.ptr 56 []),(4,iv ((x0:Int) + 1))] [(0,.cells 25 (cRun r)),(8,.cells 25 [iv 0,iv 0,nilv,nilv]),(56,.cells 25 [iv r.plates,iv r.last,.vec 10264,nilv]),(10264,.vecx 42 2 (x0 + 1) (catF x0 (fun (k:Nat)=>cMach (mach r k)) fun (j:Nat)=>List.getD [[.sl 2 (0 + (mach r x0).changes.length) fun (i:Nat)=>cSpan ((mach r x0).changes.getD i default),iv (mach r x0).rate]] j (TI.za ti42)) jm [.vec 5002,iv (mach r jm).rate]),(5002,.vec 37 2 (chLen r jm x0) fun (p:Nat)=>cSpan (chg (mach r jm) p))] 10312) ⟨tv,(o24 hp x0 hx0 h1 h2),tv,tv⟩ ?_
   exact loop_next (zo20_1 r jm jf) x0 (eQ hE [] [(0,.same 0),(8,.same 8),(56,.same 56),(5000,.same 10264),(5002,.same 5002)] [] [0,8] (((zP 0)/\(zP 8)/\(zP 56)/\(zN (iv ((x0:Int) + 1)) (iv (↑(x0 + 1):Int)))/\True)/\((zT (OB.cells 25 (cRun r)))/\(zT (OB.cells 25 [iv 0,iv 0,nilv,nilv]))/\(25=25/\((zM (iv r.plates))/\(zM (iv r.last))/\zE (some (Src.same 10264))/\(zM nilv)/\True)/\true=true)/\(42=42/\2=2/\x0 + 1=x0 + 1/\jm=jm/\(∀ (i8:Nat),i8 < x0 + 1->i8 ≠ jm->catF x0 (fun (k:Nat)=>cMach (mach r k)) (fun (j:Nat)=>List.getD [[AV.sl 2 (0 + (mach r x0).changes.length) fun (i:Nat)=>cSpan ((mach r x0).changes.getD i default),iv (mach r x0).rate]] j (TI.za ti42)) i8=cMach (mach r i8))/\(zE (some (Src.same 5002))/\(zM (iv (mach r jm).rate))/\True)/\true=true)/\(37=37/\2=2/\chLen r jm x0=chLen r jm (x0 + 1) /\ ∀ (i11:Nat),i11 < chLen r jm x0->cSpan (chg (mach r jm) i11)=cSpan (chg (mach r jm) i11))/\True)/\T2) ⟨⟨⟨rfl,rfl⟩,⟨rfl,rfl⟩,⟨rfl,rfl⟩,⟨(congrArg iv (o25 hp x0 hx0 h1 h2)),rfl⟩,tv⟩,⟨⟨rfl,rfl⟩,⟨rfl,rfl⟩,⟨rfl,⟨⟨rfl,rfl⟩,⟨rfl,rfl⟩,rfl,⟨rfl,rfl⟩,tv⟩,rfl⟩,⟨rfl,rfl,rfl,rfl,(fun i8=>(fun h9=>(fun h10=>(o26 hp x0 hx0 h1 h2 i8 h9 h10)))),⟨rfl,⟨rfl,rfl⟩,tv⟩,rfl⟩,⟨rfl,rfl,(o27 hp x0 hx0 h1 h2),(fun i11=>(fun h12=>rfl))⟩,tv⟩,rfl,rfl⟩) (o28 hp x0 hx0 h1 h2) (o29 hp x0 hx0 h1 h2)
 ·refine swp_exit (swp_seq (swp_seq ?_))
  refine sQ (kt:=[1,2,3,5]) (kh:=[0,8,56,5000,5002]) (q:=True/\True) (st':=ASt.mk [(1,.ptr 0 []),(2,.ptr 8 []),(3,.ptr 56 []),(5,iv 0)] [(0,.cells 25 (cRun r)),(8,.cells 25 [iv 0,iv 0,nilv,nilv]),(56,.cells 25 [iv r.plates,iv r.last,.vec 5000,nilv]),(5000,.vecx 42 2 x0 (fun (k:Nat)=>cMach (mach r k)) jm [.vec 5002,iv (mach r jm).rate]),(5002,.vec 37 2 (chLen r jm x0) fun (p:Nat)=>cSpan (chg (mach r jm) p))] 10128) ⟨tv,tv⟩ ?_
  refine swp_block ?_
  refine swp_loopA (zo20_2 r jm jf) (eQ hE [] [(0,.same 0),(8,.same 8),(56,.same 56),(5000,.same 5000),(5002,.same 5002),(5001,.nil),(5003,.nil)] [] [0,8] (((zP 0)/\(zP 8)/\(zP 56)/\(zN (iv 0) (iv (↑0:Int)))/\True)/\((zT (OB.cells 25 (cRun r)))/\(zT (OB.cells 25 [iv 0,iv 0,nilv,nilv]))/\(25=25/\((zM (iv r.plates))/\(zM (iv r.last))/\zE (some (Src.same 5000))/\zE (some Src.nil)/\True)/\true=true)/\(42=42/\2=2/\x0=r.machines.length/\jm=jm/\(∀ (i14:Nat),i14 < x0->i14 ≠ jm->cMach (mach r i14)=cMach (mach r i14))/\(zE (some (Src.same 5002))/\(zM (iv (mach r jm).rate))/\True)/\true=true)/\(37=37/\2=2/\chLen r jm x0=chLen r jm r.machines.length /\ ∀ (i17:Nat),i17 < chLen r jm x0->cSpan (chg (mach r jm) i17)=cSpan (chg (mach r jm) i17))/\0=0/\nwLen r jf 0=0/\True)/\T2) ⟨⟨⟨rfl,rfl⟩,⟨rfl,rfl⟩,⟨rfl,rfl⟩,⟨(congrArg iv (o30 hp x0 hx0 h1)),rfl⟩,tv⟩,⟨⟨rfl,rfl⟩,⟨rfl,rfl⟩,⟨rfl,⟨⟨rfl,rfl⟩,⟨rfl,rfl⟩,rfl,rfl,tv⟩,rfl⟩,⟨rfl,rfl,(o31 hp x0 hx0 h1),rfl,(fun i14=>(fun h15=>(fun h16=>rfl))),⟨rfl,⟨rfl,rfl⟩,tv⟩,rfl⟩,⟨rfl,rfl,(o32 hp x0 hx0 h1),(fun i17=>(fun h18=>rfl))⟩,rfl,(o33 hp x0 hx0 h1),tv⟩,rfl,rfl⟩) (o34 hp x0 hx0 h1) (fun (x13:Nat) hx13 => ?_)
  refine swp_seq (swp_seq ?_)
  refine sQ (kt:=[1,2,3,5,43]) (kh:=[0,8,56,5000,5001,5002,5003]) (q:=tn 5) (st':=ASt.mk [(1,.ptr 0 []),(2,.ptr 8 []),(3,.ptr 56 []),(5,iv (x13:Int)),(43,bv (decide ((x13:Int) < (↑(r.found.length):Int))))] [(0,.cells 25 (cRun r)),(8,.cells 25 [iv 0,iv 0,nilv,nilv]),(56,.cells 25 [iv r.plates,iv r.last,.vec 5000,.vec 5001]),(5000,.vecx 42 2 r.machines.length (fun (k:Nat)=>cMach (mach r k)) jm [.vec 5002,iv (mach r jm).rate]),(5001,.vecx 32 3 x13 (fun (k:Nat)=>cFnd (fnd r k)) jf [iv (fnd r jf).minute,.vec 5003,aInts (fnd r jf).frm]),(5002,.vec 37 2 (chLen r jm r.machines.length) fun (p:Nat)=>cSpan (chg (mach r jm) p)),(5003,.vec 3 1 (nwLen r jf x13) fun (p:Nat)=>[iv ((fnd r jf).new.getD p 0)])] 20168) (tp 5) ?_
  refine swp_cond (decide ((x13:Int) < (↑(r.found.length):Int))) (by kernel_rfl) (fun h19 => ?_) (fun h19 => ?_)
  ·refine swp_skip (swp_seq (swp_block (swp_seq ?_)))
   refine sQ (kt:=[1,2,3,5,6]) (kh:=[0,8,56,20208,5000,5001,5002,5003]) (q:=True/\True/\True/\(0<=(x13:Int)/\(x13:Int) < (↑(r.found.length):Int))/\tn 3) (st':=ASt.mk [(1,.ptr 0 []),(2,.ptr 8 []),(3,.ptr 56 []),(5,iv (x13:Int)),(6,.ptr 20208 [])] [(0,.cells 25 (cRun r)),(8,.cells 25 [iv 0,iv 0,nilv,nilv]),(56,.cells 25 [iv r.plates,iv r.last,.vec 5000,.vec 5001]),(20208,.cells 32 (cFnd (fnd r x13))),(5000,.vecx 42 2 r.machines.length (fun (k:Nat)=>cMach (mach r k)) jm [.vec 5002,iv (mach r jm).rate]),(5001,.vecx 32 3 x13 (fun (k:Nat)=>cFnd (fnd r k)) jf [iv (fnd r jf).minute,.vec 5003,aInts (fnd r jf).frm]),(5002,.vec 37 2 (chLen r jm r.machines.length) fun (p:Nat)=>cSpan (chg (mach r jm) p)),(5003,.vec 3 1 (nwLen r jf x13) fun (p:Nat)=>[iv ((fnd r jf).new.getD p 0)])] 20224) ⟨tv,tv,tv,⟨(o35 hp x0 hx0 h1 x13 hx13 h19),(o36 hp x0 hx0 h1 x13 hx13 h19)⟩,tp 3⟩ ?_
   refine swp_cases (eqN x13 jf) (fun h20 => ?_) (fun h20 => ?_)
   ·refine sC (cs:=[(13,focS),(14,focS)]) (kt:=[1,2,3,5]) (kh:=[0,8,56,5000,20336,20280,20312,5002]) (q:=True/\True/\True/\True/\True/\True/\True/\0 + (fnd r x13).new.length<=65536/\True/\True/\True/\0 + (fnd r x13).frm.length<=65536/\True/\True/\(x13 + 1<=65536/\jf=x13)/\tn 2) (st':=ASt.mk [(1,.ptr 0 []),(2,.ptr 8 []),(3,.ptr 56 []),(5,iv (x13:Int))] [(0,.cells 25 (cRun r)),(8,.cells 25 [iv 0,iv 0,nilv,nilv]),(56,.cells 25 [iv r.plates,iv r.last,.vec 5000,.vec 20336]),(5000,.vecx 42 2 r.machines.length (fun (k:Nat)=>cMach (mach r k)) jm [.vec 5002,iv (mach r jm).rate]),(20336,.vecx 32 3 (x13 + 1) (fun (k:Nat)=>cFnd (fnd r k)) jf [iv (fnd r x13).minute,.vec 20280,.vec 20312]),(20280,.vec 3 1 (0 + (fnd r x13).new.length) fun (i:Nat)=>[iv ((fnd r x13).new.getD i 0)]),(20312,.vec 3 1 (0 + (fnd r x13).frm.length) fun (i:Nat)=>[iv ((fnd r x13).frm.getD i 0)]),(5002,.vec 37 2 (chLen r jm r.machines.length) fun (p:Nat)=>cSpan (chg (mach r jm) p))] 20360) ⟨tv,tv,tv,tv,tv,tv,tv,(o37 hp x0 hx0 h1 x13 hx13 h19 h20),tv,tv,tv,(o38 hp x0 hx0 h1 x13 hx13 h19 h20),tv,tv,⟨(o39 hp x0 hx0 h1 x13 hx13 h19 h20),(o40 hp x0 hx0 h1 x13 hx13 h19 h20)⟩,tp 2⟩ ?_
    refine sQ (kt:=[1,2,3,5]) (kh:=[0,8,56,5000,20336,5002,20280,20312]) (q:=True/\inI ((x13:Int) + 1)/\True/\True) (st':=ASt.mk [(1,.ptr 0 []),(2,.ptr 8 []),(3,.ptr 56 []),(5,iv ((x13:Int) + 1))] [(0,.cells 25 (cRun r)),(8,.cells 25 [iv 0,iv 0,nilv,nilv]),(56,.cells 25 [iv r.plates,iv r.last,.vec 5000,.vec 20336]),(5000,.vecx 42 2 r.machines.length (fun (k:Nat)=>cMach (mach r k)) jm [.vec 5002,iv (mach r jm).rate]),(20336,.vecx 32 3 (x13 + 1) (fun (k:Nat)=>cFnd (fnd r k)) jf [iv (fnd r x13).minute,.vec 20280,.vec 20312]),(5002,.vec 37 2 (chLen r jm r.machines.length) fun (p:Nat)=>cSpan (chg (mach r jm) p)),(20280,.vec 3 1 (0 + (fnd r x13).new.length) fun (i:Nat)=>[iv ((fnd r x13).new.getD i 0)]),(20312,.vec 3 1 (0 + (fnd r x13).frm.length) fun (i:Nat)=>[iv ((fnd r x13).frm.getD i 0)])] 20384) ⟨tv,(o41 hp x0 hx0 h1 x13 hx13 h19 h20),tv,tv⟩ ?_
    exact loop_next (zo20_2 r jm jf) x13 (eQ hE [20312] [(0,.same 0),(8,.same 8),(56,.same 56),(5000,.same 5000),(5002,.same 5002),(5001,.same 20336),(5003,.same 20280)] [] [0,8,5002] (((zP 0)/\(zP 8)/\(zP 56)/\(zN (iv ((x13:Int) + 1)) (iv (↑(x13 + 1):Int)))/\True)/\((zT (OB.cells 25 (cRun r)))/\(zT (OB.cells 25 [iv 0,iv 0,nilv,nilv]))/\(25=25/\((zM (iv r.plates))/\(zM (iv r.last))/\zE (some (Src.same 5000))/\zE (some (Src.same 20336))/\True)/\true=true)/\(42=42/\2=2/\zE (r.machines.length)/\jm=jm/\(∀ (i21:Nat),i21 < r.machines.length->i21 ≠ jm->cMach (mach r i21)=cMach (mach r i21))/\(zE (some (Src.same 5002))/\(zM (iv (mach r jm).rate))/\True)/\true=true)/\(zT (OB.vec 37 2 (chLen r jm r.machines.length) fun (p:Nat)=>cSpan (chg (mach r jm) p)))/\(32=32/\3=3/\zE (x13 + 1)/\jf=jf/\(∀ (i24:Nat),i24 < x13 + 1->i24 ≠ jf->cFnd (fnd r i24)=cFnd (fnd r i24))/\((zN (iv (fnd r x13).minute) (iv (fnd r jf).minute))/\zE (some (Src.same 20280))/\(1=1/\0 + (fnd r x13).frm.length=(fnd r jf).frm.length /\ ∀ (i27:Nat),i27 < (fnd r jf).frm.length -> [iv ((fnd r x13).frm.getD i27 0)] = [iv ((fnd r jf).frm.getD i27 0)])/\True)/\true=true)/\(3=3/\1=1/\0 + (fnd r x13).new.length=nwLen r jf (x13 + 1) /\ ∀ (i29:Nat),i29 < 0 + (fnd r x13).new.length -> [iv ((fnd r x13).new.getD i29 0)] = [iv ((fnd r jf).new.getD i29 0)])/\True)/\T2) ⟨⟨⟨rfl,rfl⟩,⟨rfl,rfl⟩,⟨rfl,rfl⟩,⟨(congrArg iv (o42 hp x0 hx0 h1 x13 hx13 h19 h20)),rfl⟩,tv⟩,⟨⟨rfl,rfl⟩,⟨rfl,rfl⟩,⟨rfl,⟨⟨rfl,rfl⟩,⟨rfl,rfl⟩,rfl,rfl,tv⟩,rfl⟩,⟨rfl,rfl,rfl,rfl,(fun i21=>(fun h22=>(fun h23=>rfl))),⟨rfl,⟨rfl,rfl⟩,tv⟩,rfl⟩,⟨rfl,rfl⟩,⟨rfl,rfl,rfl,rfl,(fun i24=>(fun h25=>(fun h26=>rfl))),⟨⟨(congrArg iv (o43 hp x0 hx0 h1 x13 hx13 h19 h20)),rfl⟩,rfl,⟨rfl,(o44 hp x0 hx0 h1 x13 hx13 h19 h20),(fun i27=>(fun h28=>(o45 hp x0 hx0 h1 x13 hx13 h19 h20 i27 h28)))⟩,tv⟩,rfl⟩,⟨rfl,rfl,(o46 hp x0 hx0 h1 x13 hx13 h19 h20),(fun i29=>(fun h30=>(o47 hp x0 hx0 h1 x13 hx13 h19 h20 i29 h30)))⟩,tv⟩,rfl,rfl⟩) (o48 hp x0 hx0 h1 x13 hx13 h19 h20) (o49 hp x0 hx0 h1 x13 hx13 h19 h20)
   ·refine sQ (kt:=[1,2,3,5]) (kh:=[0,8,56,5000,20336,5003,5002]) (q:=True/\True/\True/\True/\True/\True/\True/\0 + (fnd r x13).new.length<=65536/\True/\True/\True/\0 + (fnd r x13).frm.length<=65536/\True/\True/\(x13 + 1<=65536/\(jf < x13 ∨ x13 + 1<=jf))/\tn 2) (st':=ASt.mk [(1,.ptr 0 []),(2,.ptr 8 []),(3,.ptr 56 []),(5,iv (x13:Int))] [(0,.cells 25 (cRun r)),(8,.cells 25 [iv 0,iv 0,nilv,nilv]),(56,.cells 25 [iv r.plates,iv r.last,.vec 5000,.vec 20336]),(5000,.vecx 42 2 r.machines.length (fun (k:Nat)=>cMach (mach r k)) jm [.vec 5002,iv (mach r jm).rate]),(20336,.vecx 32 3 (x13 + 1) (catF x13 (fun (k:Nat)=>cFnd (fnd r k)) fun (j:Nat)=>List.getD [[iv (fnd r x13).minute,.sl 1 (0 + (fnd r x13).new.length) fun (i:Nat)=>[iv ((fnd r x13).new.getD i 0)],.sl 1 (0 + (fnd r x13).frm.length) fun (i:Nat)=>[iv ((fnd r x13).frm.getD i 0)]]] j (TI.za ti32)) jf [iv (fnd r jf).minute,.vec 5003,aInts (fnd r jf).frm]),(5003,.vec 3 1 (nwLen r jf x13) fun (p:Nat)=>[iv ((fnd r jf).new.getD p 0)]),(5002,.vec 37 2 (chLen r jm r.machines.length) fun (p:Nat)=>cSpan (chg (mach r jm) p))] 20360) ⟨tv,tv,tv,tv,tv,tv,tv,(o50 hp x0 hx0 h1 x13 hx13 h19 h20),tv,tv,tv,(o51 hp x0 hx0 h1 x13 hx13 h19 h20),tv,tv,⟨(o52 hp x0 hx0 h1 x13 hx13 h19 h20),(o53 hp x0 hx0 h1 x13 hx13 h19 h20)⟩,tp 2⟩ ?_
    refine sQ (kt:=[1,2,3,5]) (kh:=[0,8,56,5000,20336,5002,5003]) (q:=True/\inI ((x13:Int) + 1)/\True/\True) (st':=ASt.mk [(1,.ptr 0 []),(2,.ptr 8 []),(3,.ptr 56 []),(5,iv ((x13:Int) + 1))] [(0,.cells 25 (cRun r)),(8,.cells 25 [iv 0,iv 0,nilv,nilv]),(56,.cells 25 [iv r.plates,iv r.last,.vec 5000,.vec 20336]),(5000,.vecx 42 2 r.machines.length (fun (k:Nat)=>cMach (mach r k)) jm [.vec 5002,iv (mach r jm).rate]),(20336,.vecx 32 3 (x13 + 1) (catF x13 (fun (k:Nat)=>cFnd (fnd r k)) fun (j:Nat)=>List.getD [[iv (fnd r x13).minute,.sl 1 (0 + (fnd r x13).new.length) fun (i:Nat)=>[iv ((fnd r x13).new.getD i 0)],.sl 1 (0 + (fnd r x13).frm.length) fun (i:Nat)=>[iv ((fnd r x13).frm.getD i 0)]]] j (TI.za ti32)) jf [iv (fnd r jf).minute,.vec 5003,aInts (fnd r jf).frm]),(5002,.vec 37 2 (chLen r jm r.machines.length) fun (p:Nat)=>cSpan (chg (mach r jm) p)),(5003,.vec 3 1 (nwLen r jf x13) fun (p:Nat)=>[iv ((fnd r jf).new.getD p 0)])] 20384) ⟨tv,(o54 hp x0 hx0 h1 x13 hx13 h19 h20),tv,tv⟩ ?_
    exact loop_next (zo20_2 r jm jf) x13 (eQ hE [] [(0,.same 0),(8,.same 8),(56,.same 56),(5000,.same 5000),(5002,.same 5002),(5001,.same 20336),(5003,.same 5003)] [] [0,8,5002] (((zP 0)/\(zP 8)/\(zP 56)/\(zN (iv ((x13:Int) + 1)) (iv (↑(x13 + 1):Int)))/\True)/\((zT (OB.cells 25 (cRun r)))/\(zT (OB.cells 25 [iv 0,iv 0,nilv,nilv]))/\(25=25/\((zM (iv r.plates))/\(zM (iv r.last))/\zE (some (Src.same 5000))/\zE (some (Src.same 20336))/\True)/\true=true)/\(42=42/\2=2/\zE (r.machines.length)/\jm=jm/\(∀ (i31:Nat),i31 < r.machines.length->i31 ≠ jm->cMach (mach r i31)=cMach (mach r i31))/\(zE (some (Src.same 5002))/\(zM (iv (mach r jm).rate))/\True)/\true=true)/\(zT (OB.vec 37 2 (chLen r jm r.machines.length) fun (p:Nat)=>cSpan (chg (mach r jm) p)))/\(32=32/\3=3/\zE (x13 + 1)/\jf=jf/\(∀ (i34:Nat),i34 < x13 + 1->i34 ≠ jf->catF x13 (fun (k:Nat)=>cFnd (fnd r k)) (fun (j:Nat)=>List.getD [[iv (fnd r x13).minute,AV.sl 1 (0 + (fnd r x13).new.length) fun (i:Nat)=>[iv ((fnd r x13).new.getD i 0)],AV.sl 1 (0 + (fnd r x13).frm.length) fun (i:Nat)=>[iv ((fnd r x13).frm.getD i 0)]]] j (TI.za ti32)) i34=cFnd (fnd r i34))/\((zM (iv (fnd r jf).minute))/\zE (some (Src.same 5003))/\(1=1/\(fnd r jf).frm.length=(fnd r jf).frm.length /\ ∀ (i37:Nat),i37 < (fnd r jf).frm.length -> [iv ((fnd r jf).frm.getD i37 0)] = [iv ((fnd r jf).frm.getD i37 0)])/\True)/\true=true)/\(3=3/\1=1/\nwLen r jf x13=nwLen r jf (x13 + 1) /\ ∀ (i39:Nat),i39 < nwLen r jf x13 -> [iv ((fnd r jf).new.getD i39 0)] = [iv ((fnd r jf).new.getD i39 0)])/\True)/\T2) ⟨⟨⟨rfl,rfl⟩,⟨rfl,rfl⟩,⟨rfl,rfl⟩,⟨(congrArg iv (o55 hp x0 hx0 h1 x13 hx13 h19 h20)),rfl⟩,tv⟩,⟨⟨rfl,rfl⟩,⟨rfl,rfl⟩,⟨rfl,⟨⟨rfl,rfl⟩,⟨rfl,rfl⟩,rfl,rfl,tv⟩,rfl⟩,⟨rfl,rfl,rfl,rfl,(fun i31=>(fun h32=>(fun h33=>rfl))),⟨rfl,⟨rfl,rfl⟩,tv⟩,rfl⟩,⟨rfl,rfl⟩,⟨rfl,rfl,rfl,rfl,(fun i34=>(fun h35=>(fun h36=>(o56 hp x0 hx0 h1 x13 hx13 h19 h20 i34 h35 h36)))),⟨⟨rfl,rfl⟩,rfl,⟨rfl,rfl,(fun i37=>(fun h38=>rfl))⟩,tv⟩,rfl⟩,⟨rfl,rfl,(o57 hp x0 hx0 h1 x13 hx13 h19 h20),(fun i39=>(fun h40=>rfl))⟩,tv⟩,rfl,rfl⟩) (o58 hp x0 hx0 h1 x13 hx13 h19 h20) (o59 hp x0 hx0 h1 x13 hx13 h19 h20)
  ·refine swp_exit (swp_seq ?_)
   refine sQ (kt:=[2]) (kh:=[8,5000,5001,5002,5003]) (q:=tn 2) (st':=ASt.mk [(2,.ptr 8 [])] [(8,.cells 25 [iv r.plates,iv r.last,.vec 5000,.vec 5001]),(5000,.vecx 42 2 r.machines.length (fun (k:Nat)=>cMach (mach r k)) jm [.vec 5002,iv (mach r jm).rate]),(5001,.vecx 32 3 x13 (fun (k:Nat)=>cFnd (fnd r k)) jf [iv (fnd r jf).minute,.vec 5003,aInts (fnd r jf).frm]),(5002,.vec 37 2 (chLen r jm r.machines.length) fun (p:Nat)=>cSpan (chg (mach r jm) p)),(5003,.vec 3 1 (nwLen r jf x13) fun (p:Nat)=>[iv ((fnd r jf).new.getD p 0)])] 20184) (tp 2) ?_
   refine swp_ret ?_
   exact ret_o (ASt.mk [(2,AV.ptr 90 [])] [(90,OB.cells 25 [iv r.plates,iv r.last,AV.vec 0,AV.vec 1]),(0,OB.vecx 42 2 r.machines.length (fun (k:Nat)=>cMach (mach r k)) jm [AV.vec 2,iv (mach r jm).rate]),(1,OB.vecx 32 3 r.found.length (fun (k:Nat)=>cFnd (fnd r k)) jf [iv (fnd r jf).minute,AV.vec 3,aInts (fnd r jf).frm]),(2,OB.vec 37 2 (chLen r jm r.machines.length) fun (p:Nat)=>cSpan (chg (mach r jm) p)),(3,OB.vec 3 1 (nwLen r jf r.found.length) fun (p:Nat)=>[iv ((fnd r jf).new.getD p 0)])] 100) (eQ hE [] [(90,.same 8),(0,.same 5000),(2,.same 5002),(1,.same 5001),(3,.same 5003)] [] [] (((zP 8)/\True)/\((25=25/\((zM (iv r.plates))/\(zM (iv r.last))/\zE (some (Src.same 5000))/\zE (some (Src.same 5001))/\True)/\true=true)/\(42=42/\2=2/\zE (r.machines.length)/\jm=jm/\(∀ (i41:Nat),i41 < r.machines.length->i41 ≠ jm->cMach (mach r i41)=cMach (mach r i41))/\(zE (some (Src.same 5002))/\(zM (iv (mach r jm).rate))/\True)/\true=true)/\(32=32/\3=3/\x13=r.found.length/\jf=jf/\(∀ (i44:Nat),i44 < x13->i44 ≠ jf->cFnd (fnd r i44)=cFnd (fnd r i44))/\((zM (iv (fnd r jf).minute))/\zE (some (Src.same 5003))/\(1=1/\(fnd r jf).frm.length=(fnd r jf).frm.length /\ ∀ (i47:Nat),i47 < (fnd r jf).frm.length -> [iv ((fnd r jf).frm.getD i47 0)] = [iv ((fnd r jf).frm.getD i47 0)])/\True)/\true=true)/\(37=37/\2=2/\chLen r jm r.machines.length=chLen r jm r.machines.length /\ ∀ (i49:Nat),i49 < chLen r jm r.machines.length->cSpan (chg (mach r jm) i49)=cSpan (chg (mach r jm) i49))/\(3=3/\1=1/\nwLen r jf x13=nwLen r jf r.found.length /\ ∀ (i51:Nat),i51 < nwLen r jf x13 -> [iv ((fnd r jf).new.getD i51 0)] = [iv ((fnd r jf).new.getD i51 0)])/\True)/\T2) ⟨⟨⟨rfl,rfl⟩,tv⟩,⟨⟨rfl,⟨⟨rfl,rfl⟩,⟨rfl,rfl⟩,rfl,rfl,tv⟩,rfl⟩,⟨rfl,rfl,rfl,rfl,(fun i41=>(fun h42=>(fun h43=>rfl))),⟨rfl,⟨rfl,rfl⟩,tv⟩,rfl⟩,⟨rfl,rfl,(o60 hp x0 hx0 h1 x13 hx13 h19),rfl,(fun i44=>(fun h45=>(fun h46=>rfl))),⟨⟨rfl,rfl⟩,rfl,⟨rfl,rfl,(fun i47=>(fun h48=>rfl))⟩,tv⟩,rfl⟩,⟨rfl,rfl,rfl,(fun i49=>(fun h50=>rfl))⟩,⟨rfl,rfl,(o61 hp x0 hx0 h1 x13 hx13 h19),(fun i51=>(fun h52=>rfl))⟩,tv⟩,rfl,rfl⟩) ((True/\True)/\zE (AV.agg [iv r.plates,iv r.last,AV.vec 0,AV.vec 1])/\zE (some (OB.vecx 42 2 r.machines.length (fun (k:Nat)=>cMach (mach r k)) jm [AV.vec 2,iv (mach r jm).rate]))/\zE (some (OB.vecx 32 3 r.found.length (fun (k:Nat)=>cFnd (fnd r k)) jf [iv (fnd r jf).minute,AV.vec 3,aInts (fnd r jf).frm]))/\zE (some (OB.vec 37 2 (chLen r jm r.machines.length) fun (p:Nat)=>cSpan (chg (mach r jm) p)))/\zE (some (OB.vec 3 1 (nwLen r jf r.found.length) fun (p:Nat)=>[iv ((fnd r jf).new.getD p 0)]))/\True) (by kernel_rfl) ⟨⟨tv,tv⟩,rfl,rfl,rfl,rfl,rfl,tv⟩
theorem to20 (r:Run) (jm jf:Nat) (l:List (Nat × Nat)) (hl:l.map (·.1) = [0,1,2,3]) (hnd:(l.map (·.2)).Nodup):Triple Try.prog 20 ((ou20 r jm jf).at l):=by
  apply wo20
  case hl=>exact hl
  case hnd=>exact hnd
  all_goals (first
    | ((repeat intro _) <;> (try simp only [v0,v1,v2,v3,v4,v5,v6,v7,v8,v9,inI,fits,Go.Sh.small] at *) <;> first | (exact rfl) | omega | exact vz | (simp_all; done) | (simp_all; omega))
    | (intro hp; first | rfl | (simp [chLen]; done) | (simp [nwLen]; done))
    | (intro hp x hx hl2
       have h1:(mach r x).changes.length<=65536:=hp.2.2.1 x
       have h2:=hp.1
       have h3:=hp.2.1
       simp only [decide_eq_true_eq,decide_eq_false_iff_not] at hl2
       first
       | omega
       | (rw [show x=r.machines.length by omega]; done)
       | (rw [nwLen,if_neg (Nat.not_lt_zero _)]; done)
       | (intro e
          first
          | (have e2:=eqN_t e
             subst e2
             first
             | omega
             | (simp only [inI]; omega)
             | rfl
             | (rw [chLen_self]; omega)
             | (intro i hi; rfl))
          | (have e2:=eqN_f e
             first
             | omega
             | (simp only [inI]; omega)
             | (rw [chLen_other e2]; done)
             | (intro i hi hij; exact catF_idx (fun k=>cMach (mach r k)) (by simp only [cMach,aSpans,cSpan,Nat.zero_add]) hi)))
       | (intro y hy hyl
          have h4:=(hp.2.2.2 y).1
          have h5:=(hp.2.2.2 y).2
          simp only [decide_eq_true_eq,decide_eq_false_iff_not] at hyl
          first
          | omega
          | (rw [show y=r.found.length by omega]; done)
          | (intro e
             first
             | (have e2:=eqN_t e
                subst e2
                first
                | omega
                | (simp only [inI]; omega)
                | rfl
                | (rw [nwLen_self]; omega)
                | (intro i hi; rfl))
             | (have e2:=eqN_f e
                first
                | omega
                | (simp only [inI]; omega)
                | (rw [nwLen_other e2]; done)
                | (intro i hi hij; exact catF_idx (fun k=>cFnd (fnd r k)) (by simp only [cFnd,aInts,Nat.zero_add]) hi))))))
def s20o (r:Run) (jm jf:Nat) (id:Nat):CallSpec:=(ou20 r jm jf).at [(0,id),(1,id + 1),(2,id + 2),(3,id + 3)]
theorem t20o (r:Run) (jm jf:Nat) (id:Nat):Triple Try.prog 20 (s20o r jm jf id):=to20 r jm jf _ rfl (by simp)
end Go.Ab
namespace Go.Sh
def exR:Run:=⟨2,10,[⟨[⟨2,5⟩,⟨2,8⟩],3⟩,⟨[⟨4,9⟩,⟨0,9⟩],5⟩],[⟨4,[1,0],[0,1]⟩,⟨6,[-1,1],[0,1]⟩,⟨3,[0,-1],[0]⟩]⟩
def exQ:Run:=⟨2,10,[⟨[⟨2,5⟩,⟨2,8⟩],3⟩,⟨[⟨4,9⟩,⟨0,9⟩],5⟩],[⟨4,[1,0],[0,1]⟩,⟨6,[0,1],[0,1]⟩,⟨3,[0,-1],[0]⟩]⟩
end Go.Sh
namespace Go.Ab
open Go Go.RowKit Go.Proofs Go.Sh Go.En
def s77:CallSpec:={ args:=[],res := .tup [vRun exR,vRun exQ] }
def c77 (id:Nat):CallSpec:=s20o exR 2 1 id
def s77o (r q:Run):CallSpec:={ args:=[],res := .tup [vRun r,vRun q],pre:=r=exR/\q=exQ }
def sw19 (r q:Run):CallSpec:={ args:=[],res:=bv true,pre:=r=exR/\q=exQ }
def c19a (r q:Run):CallSpec:=s77o r q
def c19 (r q:Run):CallSpec:=s37 (whereS q 1) [1]
def s19:CallSpec:={ args:=[],res:=bv true }
end Go.Ab
namespace Go.Ab
open Go Go.RowKit Go.Proofs Go.Sh Go.En
theorem w77 
 (o0:2=Run.plates exR)
 (o1:10=Run.last exR)
 (o2:∀ (i4:Nat),i4 < exR.machines.length->List.getD [[AV.sl 2 2 fun (j:Nat)=>List.getD [[iv 2,iv 5],[iv 2,iv 8]] j (TI.za ti37),iv 3],[AV.sl 2 2 fun (j:Nat)=>List.getD [[iv 4,iv 9],[iv 0,iv 9]] j (TI.za ti37),iv 5]] i4 (TI.za ti42)=cMach (mach exR i4))
 (o3:∀ (i6:Nat),i6 < exR.found.length->List.getD [[iv 4,AV.sl 1 2 fun (j:Nat)=>List.getD [[iv 1],[iv 0]] j (TI.za ti3),AV.sl 1 2 fun (j:Nat)=>List.getD [[iv 0],[iv 1]] j (TI.za ti3)],[iv 6,AV.sl 1 2 fun (j:Nat)=>List.getD [[iv (-1)],[iv 1]] j (TI.za ti3),AV.sl 1 2 fun (j:Nat)=>List.getD [[iv 0],[iv 1]] j (TI.za ti3)],[iv 3,AV.sl 1 2 fun (j:Nat)=>List.getD [[iv 0],[iv (-1)]] j (TI.za ti3),AV.sl 1 1 fun (j:Nat)=>List.getD [[iv 0]] j (TI.za ti3)]] i6 (TI.za ti32)=cFnd (fnd exR i6))
 (o4:small exR)
 (o5:∀ (i12:Nat),i12 < (mach exR 2).changes.length->cSpan (chg (mach exR 2) i12) = [iv ((mach exR 2).changes.getD i12 default).lo,iv ((mach exR 2).changes.getD i12 default).hi])
 (o6:∀ (i14:Nat),i14 < exR.found.length->i14 ≠ 1->cFnd (fnd exR i14)=cFnd (fnd exQ i14))
 (o7:Fnd.minute (fnd exR 1)=Fnd.minute (fnd exQ 1))
 (o8:∀ (i17:Nat),i17 < (fnd exQ 1).new.length->Decidable.rec (fun (h:¬i17=0)=>[iv ((fnd exR 1).new.getD i17 0)]) (fun (h:i17=0)=>[iv 0] ++ []) (instDecidableEqNat i17 0) = [iv ((fnd exQ 1).new.getD i17 0)])
 (o9:∀ (i19:Nat),i19 < (fnd exQ 1).frm.length -> [iv ((fnd exR 1).frm.getD i19 0)] = [iv ((fnd exQ 1).frm.getD i19 0)])
 (o10:Run.plates exR=Run.plates exQ)
 (o11:Run.last exR=Run.last exQ)
 (o12:∀ (i21:Nat),i21 < exQ.machines.length->cMach (mach exR i21)=cMach (mach exQ i21)) :
  Triple Try.prog 77 (s77):=by
 refine triple_of Try.func77 rfl Try.call77 T0_ok _ rfl rfl rfl rfl (Nat.le_of_ble_eq_true (by kernel_rfl)) (fun _ _ _ _ h=>h) ?_
 intro _ C hC _ hE
 obtain ⟨P,w0,E0,av,hA⟩:=C
 subst hC
 refine swp_seq ?_
 refine sQ (kt:=[0,1]) (kh:=[0,8]) (q:=tn 2) (st':=ASt.mk [(0,.ptr 0 []),(1,.ptr 8 [])] [(0,.cells 25 [iv 0,iv 0,nilv,nilv]),(8,.cells 25 [iv 0,iv 0,nilv,nilv])] 16) (tp 2) ?_
 refine swp_seq ?_
 refine sC (cs:=[(0,CallSpec.eq (s29 2 5) [true,true]),(1,CallSpec.eq (s29 2 8) [true,true]),(4,CallSpec.eq (s29 4 9) [true,true]),(5,CallSpec.eq (s29 0 9) [true,true])]) (kt:=[0,1]) (kh:=[0,8,80,160]) (q:=((iv 2=iv 2/\iv 5=iv 5/\True)/\Triple Try.prog 29 (s29 2 5)/\True/\True /\ ∀ (i0:Env),True)/\((iv 2=iv 2/\iv 8=iv 8/\True)/\Triple Try.prog 29 (s29 2 8)/\True/\True /\ ∀ (i1:Env),True)/\True/\True/\((iv 4=iv 4/\iv 9=iv 9/\True)/\Triple Try.prog 29 (s29 4 9)/\True/\True /\ ∀ (i2:Env),True)/\((iv 0=iv 0/\iv 9=iv 9/\True)/\Triple Try.prog 29 (s29 0 9)/\True/\True /\ ∀ (i3:Env),True)/\tn 15) (st':=ASt.mk [(0,.ptr 0 []),(1,.ptr 8 [])] [(0,.cells 25 [iv 2,iv 10,.vec 80,.vec 160]),(8,.cells 25 [iv 0,iv 0,nilv,nilv]),(80,.vec 42 2 2 fun (j:Nat)=>List.getD [[.sl 2 2 fun (j:Nat)=>List.getD [[iv 2,iv 5],[iv 2,iv 8]] j (TI.za ti37),iv 3],[.sl 2 2 fun (j:Nat)=>List.getD [[iv 4,iv 9],[iv 0,iv 9]] j (TI.za ti37),iv 5]] j (TI.za ti42)),(160,.vec 32 3 3 fun (j:Nat)=>List.getD [[iv 4,.sl 1 2 fun (j:Nat)=>List.getD [[iv 1],[iv 0]] j (TI.za ti3),.sl 1 2 fun (j:Nat)=>List.getD [[iv 0],[iv 1]] j (TI.za ti3)],[iv 6,.sl 1 2 fun (j:Nat)=>List.getD [[iv (-1)],[iv 1]] j (TI.za ti3),.sl 1 2 fun (j:Nat)=>List.getD [[iv 0],[iv 1]] j (TI.za ti3)],[iv 3,.sl 1 2 fun (j:Nat)=>List.getD [[iv 0],[iv (-1)]] j (TI.za ti3),.sl 1 1 fun (j:Nat)=>List.getD [[iv 0]] j (TI.za ti3)]] j (TI.za ti32))] 184) ⟨⟨⟨rfl,rfl,tv⟩,(t29 (2) (5)),tv,tv,(fun i0=>tv)⟩,⟨⟨rfl,rfl,tv⟩,(t29 (2) (8)),tv,tv,(fun i1=>tv)⟩,tv,tv,⟨⟨rfl,rfl,tv⟩,(t29 (4) (9)),tv,tv,(fun i2=>tv)⟩,⟨⟨rfl,rfl,tv⟩,(t29 (0) (9)),tv,tv,(fun i3=>tv)⟩,tp 15⟩ ?_
 refine swp_seq ?_
 refine swp_ent (eQ (st2:=ASt.mk [(0,AV.ptr 0 []),(1,AV.ptr 8 [])] [(0,OB.cells 25 (cRun exR)),(8,OB.cells 25 [iv 0,iv 0,nilv,nilv])] 184) hE [80,160] [(0,.same 0),(8,.same 8)] [] [8] (((zP 0)/\(zP 8)/\True)/\((25=25/\((zN (iv 2) (iv exR.plates))/\(zN (iv 10) (iv exR.last))/\(2=2/\2=exR.machines.length /\ ∀ (i4:Nat),i4 < exR.machines.length->List.getD [[AV.sl 2 2 fun (j:Nat)=>List.getD [[iv 2,iv 5],[iv 2,iv 8]] j (TI.za ti37),iv 3],[AV.sl 2 2 fun (j:Nat)=>List.getD [[iv 4,iv 9],[iv 0,iv 9]] j (TI.za ti37),iv 5]] i4 (TI.za ti42)=cMach (mach exR i4))/\(3=3/\3=exR.found.length /\ ∀ (i6:Nat),i6 < exR.found.length->List.getD [[iv 4,AV.sl 1 2 fun (j:Nat)=>List.getD [[iv 1],[iv 0]] j (TI.za ti3),AV.sl 1 2 fun (j:Nat)=>List.getD [[iv 0],[iv 1]] j (TI.za ti3)],[iv 6,AV.sl 1 2 fun (j:Nat)=>List.getD [[iv (-1)],[iv 1]] j (TI.za ti3),AV.sl 1 2 fun (j:Nat)=>List.getD [[iv 0],[iv 1]] j (TI.za ti3)],[iv 3,AV.sl 1 2 fun (j:Nat)=>List.getD [[iv 0],[iv (-1)]] j (TI.za ti3),AV.sl 1 1 fun (j:Nat)=>List.getD [[iv 0]] j (TI.za ti3)]] i6 (TI.za ti32)=cFnd (fnd exR i6))/\True)/\true=true)/\(zT (OB.cells 25 [iv 0,iv 0,nilv,nilv]))/\True)/\T2) ⟨⟨⟨rfl,rfl⟩,⟨rfl,rfl⟩,tv⟩,⟨⟨rfl,⟨⟨(congrArg iv (o0)),rfl⟩,⟨(congrArg iv (o1)),rfl⟩,⟨rfl,(by decide),(fun i4=>(fun h5=>(o2 i4 h5)))⟩,⟨rfl,(by decide),(fun i6=>(fun h7=>(o3 i6 h7)))⟩,tv⟩,rfl⟩,⟨rfl,rfl⟩,tv⟩,rfl,rfl⟩) ?_
 refine sC (cs:=[(1,CallSpec.eq (c77 192) [true])]) (kt:=[0,1]) (kh:=[0,8,192,193,195,194]) (q:=True/\((zE (AV.agg (cRun exR))/\True)/\Triple Try.prog 20 (c77 192)/\small exR/\True /\ ∀ (i8:Env),True)/\True/\True) (st':=ASt.mk [(0,.ptr 0 []),(1,.ptr 8 [])] [(0,.cells 25 (cRun exR)),(8,.cells 25 [iv exR.plates,iv exR.last,.vec 192,.vec 193]),(192,.vecx 42 2 exR.machines.length (fun (k:Nat)=>cMach (mach exR k)) 2 [.vec 194,iv (mach exR 2).rate]),(193,.vecx 32 3 exR.found.length (fun (k:Nat)=>cFnd (fnd exR k)) 1 [iv (fnd exR 1).minute,.vec 195,.sl 1 (fnd exR 1).frm.length fun (i:Nat)=>[iv ((fnd exR 1).frm.getD i 0)]]),(195,.vec 3 1 (nwLen exR 1 exR.found.length) fun (p:Nat)=>[iv ((fnd exR 1).new.getD p 0)]),(194,.vec 37 2 (chLen exR 2 exR.machines.length) fun (p:Nat)=>cSpan (chg (mach exR 2) p))] 208) ⟨tv,⟨⟨rfl,tv⟩,(t20o (exR) (2) (1) (192)),(o4),tv,(fun i8=>tv)⟩,tv,tv⟩ ?_
 refine swp_seq ?_
 refine sQ (kt:=[0,1]) (kh:=[0,8,192,193,194,195]) (q:=True/\True/\(Int.ofNat 0<=Int.ofNat 1/\1 < (↑(exR.found.length):Int))/\True/\(1=1/\1 < exR.found.length/\True)/\(Int.ofNat 0<=Int.ofNat 0/\0 < (↑(nwLen exR 1 exR.found.length):Int))/\(0 < nwLen exR 1 exR.found.length/\True)/\True) (st':=ASt.mk [(0,.ptr 0 []),(1,.ptr 8 [])] [(0,.cells 25 (cRun exR)),(8,.cells 25 [iv exR.plates,iv exR.last,.vec 192,.vec 193]),(192,.vecx 42 2 exR.machines.length (fun (k:Nat)=>cMach (mach exR k)) 2 [.vec 194,iv (mach exR 2).rate]),(193,.vecx 32 3 exR.found.length (fun (k:Nat)=>cFnd (fnd exR k)) 1 [iv (fnd exR 1).minute,.vec 195,.sl 1 (fnd exR 1).frm.length fun (i:Nat)=>[iv ((fnd exR 1).frm.getD i 0)]]),(194,.vec 37 2 (chLen exR 2 exR.machines.length) fun (p:Nat)=>cSpan (chg (mach exR 2) p)),(195,.vec 3 1 (nwLen exR 1 exR.found.length) fun (j:Nat)=>Decidable.rec (fun (h:¬j=0)=>[iv ((fnd exR 1).new.getD j 0)]) (fun (h:j=0)=>[iv 0] ++ []) (instDecidableEqNat j 0))] 264) ⟨tv,tv,⟨(by decide),(by decide)⟩,tv,⟨rfl,(by decide),tv⟩,⟨(by decide),(by decide)⟩,⟨(by decide),tv⟩,tv⟩ ?_
 refine swp_seq ?_
 refine swp_ent (eQ (st2:=ASt.mk [(0,AV.ptr 0 []),(1,AV.ptr 8 [])] [(192,OB.vec 42 2 2 fun (k:Nat)=>cMach (mach exR k)),(193,OB.vec 32 3 3 fun (k:Nat)=>cFnd (fnd exQ k)),(0,OB.cells 25 (cRun exR)),(8,OB.cells 25 [iv exR.plates,iv exR.last,AV.vec 192,AV.vec 193])] 264) hE [194,195] [(0,.same 0),(8,.same 8),(192,.same 192),(193,.same 193)] [] [0] (((zP 0)/\(zP 8)/\True)/\((42=42/\2=2/\exR.machines.length=2/\(∀ (i9:Nat),i9 < exR.machines.length->i9 ≠ 2->cMach (mach exR i9)=cMach (mach exR i9))/\((2=2/\chLen exR 2 exR.machines.length=(mach exR 2).changes.length /\ ∀ (i12:Nat),i12 < (mach exR 2).changes.length->cSpan (chg (mach exR 2) i12) = [iv ((mach exR 2).changes.getD i12 default).lo,iv ((mach exR 2).changes.getD i12 default).hi])/\(zM (iv (mach exR 2).rate))/\True)/\T2)/\(32=32/\3=3/\exR.found.length=3/\(∀ (i14:Nat),i14 < exR.found.length->i14 ≠ 1->cFnd (fnd exR i14)=cFnd (fnd exQ i14))/\((zN (iv (fnd exR 1).minute) (iv (fnd exQ 1).minute))/\(1=1/\nwLen exR 1 exR.found.length=(fnd exQ 1).new.length /\ ∀ (i17:Nat),i17 < (fnd exQ 1).new.length->Decidable.rec (fun (h:¬i17=0)=>[iv ((fnd exR 1).new.getD i17 0)]) (fun (h:i17=0)=>[iv 0] ++ []) (instDecidableEqNat i17 0) = [iv ((fnd exQ 1).new.getD i17 0)])/\(1=1/\(fnd exR 1).frm.length=(fnd exQ 1).frm.length /\ ∀ (i19:Nat),i19 < (fnd exQ 1).frm.length -> [iv ((fnd exR 1).frm.getD i19 0)] = [iv ((fnd exQ 1).frm.getD i19 0)])/\True)/\T2)/\(zT (OB.cells 25 (cRun exR)))/\(25=25/\((zM (iv exR.plates))/\(zM (iv exR.last))/\zE (some (Src.same 192))/\zE (some (Src.same 193))/\True)/\true=true)/\True)/\T2) ⟨⟨⟨rfl,rfl⟩,⟨rfl,rfl⟩,tv⟩,⟨⟨rfl,rfl,(by decide),(fun i9=>(fun h10=>(fun h11=>rfl))),⟨⟨rfl,(by decide),(fun i12=>(fun h13=>(o5 i12 h13)))⟩,⟨rfl,rfl⟩,tv⟩,rfl,rfl⟩,⟨rfl,rfl,(by decide),(fun i14=>(fun h15=>(fun h16=>(o6 i14 h15 h16)))),⟨⟨(congrArg iv (o7)),rfl⟩,⟨rfl,(by decide),(fun i17=>(fun h18=>(o8 i17 h18)))⟩,⟨rfl,(by decide),(fun i19=>(fun h20=>(o9 i19 h20)))⟩,tv⟩,rfl,rfl⟩,⟨rfl,rfl⟩,⟨rfl,⟨⟨rfl,rfl⟩,⟨rfl,rfl⟩,rfl,rfl,tv⟩,rfl⟩,tv⟩,rfl,rfl⟩) ?_
 refine swp_ent (eQ (st2:=ASt.mk [(0,AV.ptr 0 []),(1,AV.ptr 8 [])] [(8,OB.cells 25 (cRun exQ)),(0,OB.cells 25 (cRun exR))] 264) hE [192,193] [(0,.same 0),(8,.same 8)] [] [0] (((zP 0)/\(zP 8)/\True)/\((25=25/\((zN (iv exR.plates) (iv exQ.plates))/\(zN (iv exR.last) (iv exQ.last))/\(2=2/\2=exQ.machines.length /\ ∀ (i21:Nat),i21 < exQ.machines.length->cMach (mach exR i21)=cMach (mach exQ i21))/\(3=3/\3=exQ.found.length /\ ∀ (i23:Nat),i23 < exQ.found.length->cFnd (fnd exQ i23)=cFnd (fnd exQ i23))/\True)/\true=true)/\(zT (OB.cells 25 (cRun exR)))/\True)/\T2) ⟨⟨⟨rfl,rfl⟩,⟨rfl,rfl⟩,tv⟩,⟨⟨rfl,⟨⟨(congrArg iv (o10)),rfl⟩,⟨(congrArg iv (o11)),rfl⟩,⟨rfl,(by decide),(fun i21=>(fun h22=>(o12 i21 h22)))⟩,⟨rfl,(by decide),(fun i23=>(fun h24=>rfl))⟩,tv⟩,rfl⟩,⟨rfl,rfl⟩,tv⟩,rfl,rfl⟩) ?_
 refine sQ (kt:=[0,1]) (kh:=[0,8]) (q:=tn 4) (st':=ASt.mk [(0,.ptr 0 []),(1,.ptr 8 [])] [(0,.cells 25 (cRun exR)),(8,.cells 25 (cRun exQ))] 296) (tp 4) ?_
 refine swp_ret ?_
 exact rQ [] ((True/\True/\True)/\(((zM (iv exR.plates))/\(zM (iv exR.last))/\(2=2/\exR.machines.length=exR.machines.length /\ ∀ (i25:Nat),i25 < exR.machines.length->cMach (mach exR i25)=cMach (mach exR i25))/\(3=3/\exR.found.length=exR.found.length /\ ∀ (i27:Nat),i27 < exR.found.length->cFnd (fnd exR i27)=cFnd (fnd exR i27))/\True)/\((zM (iv exQ.plates))/\(zM (iv exQ.last))/\(2=2/\exQ.machines.length=exQ.machines.length /\ ∀ (i29:Nat),i29 < exQ.machines.length->cMach (mach exQ i29)=cMach (mach exQ i29))/\(3=3/\exQ.found.length=exQ.found.length /\ ∀ (i31:Nat),i31 < exQ.found.length->cFnd (fnd exQ i31)=cFnd (fnd exQ i31))/\True)/\True)/\T3) ⟨⟨tv,tv,tv⟩,⟨⟨⟨rfl,rfl⟩,⟨rfl,rfl⟩,⟨rfl,rfl,(fun i25=>(fun h26=>rfl))⟩,⟨rfl,rfl,(fun i27=>(fun h28=>rfl))⟩,tv⟩,⟨⟨rfl,rfl⟩,⟨rfl,rfl⟩,⟨rfl,rfl,(fun i29=>(fun h30=>rfl))⟩,⟨rfl,rfl,(fun i31=>(fun h32=>rfl))⟩,tv⟩,tv⟩,rfl,rfl,rfl⟩
theorem sl_ext {sz n:Nat} {f g:Nat->List AV} (h:∀ j,f j=g j):AV.sl sz n f = .sl sz n g:=by rw [funext h]
theorem cell3 {c a b a' b':AV} (h:a=a') (k:b=b'):[c,a,b] = [c,a',b']:=by rw [h,k]
theorem short_list {α β:Type} {l:List α} {d:α} {f:α->List β} {n:Nat} (h:l.all (fun x=>decide ((f x).length<=n))=true) (hd:(f d).length<=n) (i:Nat):(f (l.getD i d)).length<=n:=by
 by_cases hi:i < l.length
 ·have:=List.all_eq_true.1 h _ (getD_mem l d hi)
  simpa using this
 ·rw [getD_ge _ _ (by omega)]; exact hd
theorem small_exR:small exR:=by
 exact ⟨by decide,by decide,fun i=>short_list (f:=fun m:Mach=>m.changes) (by decide) (by decide) i,fun i=>⟨short_list (f:=fun m:Fnd=>m.new) (by decide) (by decide) i,short_list (f:=fun m:Fnd=>m.frm) (by decide) (by decide) i⟩⟩
theorem small_exQ:small exQ:=by
 exact ⟨by decide,by decide,fun i=>short_list (f:=fun m:Mach=>m.changes) (by decide) (by decide) i,fun i=>⟨short_list (f:=fun m:Fnd=>m.new) (by decide) (by decide) i,short_list (f:=fun m:Fnd=>m.frm) (by decide) (by decide) i⟩⟩
set_option maxRecDepth 4000
theorem x_when:whenS exQ 1 0=⟨7,9⟩:=by decide +kernel
theorem x_old:oldS exR 0=⟨32,57⟩:=by decide +kernel
theorem x_mix:mixesS exR=⟨3,57⟩:=by decide +kernel
theorem x_read:readS exR 2 1=3:=by decide +kernel
theorem x_few:fewP exQ=2:=by decide +kernel
theorem x_ok:openE exQ (whenIs exQ 1 0)=0/\openE exQ (isFound exQ 1)=0/\openE exQ true=0/\openE exR (isPlate exR 0)=0/\openE exR true=0/\openE exR (readIs exR 2 1)=0:=by decide +kernel
theorem x_wf:wf (waysOf exQ) 1 = [1]:=by decide +kernel
theorem x_where:whereS exQ 1 = [1]:=by
 rw [whereS,if_pos x_ok.2.1,whereP]
 show compactI (sortI (wf (waysOf exQ) 1)) = [1]
 rw [x_wf,sortI,List.mergeSort_singleton]
 decide +kernel
theorem t77:Triple Try.prog 77 s77:=by
 apply w77
 case o2 =>
  intro i hi
  have:i=0 ∨ i=1:=by simp [exR] at hi; omega
  rcases this with rfl | rfl
  ·exact congrArg (· :: [iv 3]) (sl_ext fun j=>by rcases j with _ | _ | j <;> rfl)
  ·exact congrArg (· :: [iv 5]) (sl_ext fun j=>by rcases j with _ | _ | j <;> rfl)
 case o3 =>
  intro i hi
  have:i=0 ∨ i=1 ∨ i=2:=by simp [exR] at hi; omega
  rcases this with rfl | rfl | rfl
  ·exact cell3 (sl_ext fun j=>by rcases j with _ | _ | j <;> rfl) (sl_ext fun j=>by rcases j with _ | _ | j <;> rfl)
  ·exact cell3 (sl_ext fun j=>by rcases j with _ | _ | j <;> rfl) (sl_ext fun j=>by rcases j with _ | _ | j <;> rfl)
  ·exact cell3 (sl_ext fun j=>by rcases j with _ | _ | j <;> rfl) (sl_ext fun j=>by rcases j with _ | j <;> rfl)
 case o4=>exact small_exR
 case o6 =>
  intro i hi h1
  have:i=0 ∨ i=2:=by simp [exR] at hi; omega
  rcases this with rfl | rfl <;> rfl
 case o8 =>
  intro i hi
  have:i=0 ∨ i=1:=by simp [fnd,exQ] at hi; omega
  rcases this with rfl | rfl <;> rfl
 all_goals (first | ((repeat intro _) <;> (try simp only [v0,v1,v2,v3,v4,v5,v6,v7,v8,v9,inI,fits,Go.Sh.small] at *) <;> first | (exact rfl) | omega | exact vz | (simp_all; done) | (simp_all; omega)) | skip)
theorem t77o (r q:Run):Triple Try.prog 77 (s77o r q):=⟨t77.1,fun h=>by obtain ⟨rfl,rfl⟩:=h; exact t77.2 trivial⟩
abbrev q19_1 (r:Run) (q:Run) (C:Prop):Prop:=r=exR/\q=exQ->C
abbrev q19_2 (r:Run) (q:Run) (C:Prop):Prop:=q19_1 r q ((bif bif bif bif bif bif decide (openE q (whenIs q 1 0)=0) then decide (openE q (isFound q 1)=0) else false then decide (openE q true=0) else false then decide (openE r (isPlate r 0)=0) else false then decide (openE r true=0) else false then decide (openE r (readIs r 2 1)=0) else false then decide ((whenS q 1 0).lo=7) && (decide ((whenS q 1 0).hi=9) && true) else false)=true->C)
theorem w19 (r:Run) (q:Run)
 (o0:q19_1 r q (fits q))
 (o1:q19_1 r q (fits q))
 (o2:q19_1 r q (fits q))
 (o3:q19_1 r q (fits r))
 (o4:q19_1 r q (fits r))
 (o5:q19_1 r q (fits r))
 (o6:q19_2 r q (∀ (i47:Nat),i47 < List.length [1]->List.getD [[iv 1]] i47 (TI.za ti3) = [iv (List.getD [1] i47 0)]))
 (o7:q19_2 r q ((whereS q 1).length<=1125899906842624))
 (o8:q19_1 r q ((bif bif bif bif bif bif bif bif bif bif bif decide (openE q (whenIs q 1 0)=0) then decide (openE q (isFound q 1)=0) else false then decide (openE q true=0) else false then decide (openE r (isPlate r 0)=0) else false then decide (openE r true=0) else false then decide (openE r (readIs r 2 1)=0) else false then decide ((whenS q 1 0).lo=7) && (decide ((whenS q 1 0).hi=9) && true) else false then sameInts (whereS q 1) [1] else false then decide (fewP q=2) else false then decide ((oldS r 0).lo=32) && (decide ((oldS r 0).hi=57) && true) else false then decide ((mixesS r).lo=3) && (decide ((mixesS r).hi=57) && true) else false then decide (readS r 2 1=3) else false)=true)) :
  Triple Try.prog 19 (sw19 r q):=by
 refine triple_of Try.func19 rfl Try.call19 T0_ok _ rfl rfl rfl rfl (Nat.le_of_ble_eq_true (by kernel_rfl)) (fun _ _ _ _ h=>h) ?_
 intro hp C hC _ hE
 obtain ⟨P,w0,E0,av,hA⟩:=C
 subst hC
 refine swp_seq ?_
 refine sQ (kt:=[]) (kh:=[]) (q:=True/\True) (st':=ASt.mk [] [] 8) ⟨tv,tv⟩ ?_
 refine swp_seq ?_
 refine sC (cs:=[(0,CallSpec.eq (c19a r q) [])]) (kt:=[1,2]) (kh:=[40,48]) (q:=(True/\Triple Try.prog 77 (c19a r q)/\(r=exR/\q=exQ)/\True /\ ∀ (i0:Env),True)/\tn 7) (st':=ASt.mk [(1,.ptr 40 []),(2,.ptr 48 [])] [(40,.cells 25 (cRun r)),(48,.cells 25 (cRun q))] 72) ⟨⟨tv,(t77o (r) (q)),⟨hp.1,hp.2⟩,tv,(fun i0=>tv)⟩,tp 7⟩ ?_
 refine swp_seq ?_
 refine sC (cs:=[(1,CallSpec.eq (s23 q 1 0) [true,true,true])]) (kt:=[1,2,3,4]) (kh:=[40,48,112]) (q:=True/\((zE (AV.agg (cRun q))/\iv 1=iv 1/\iv 0=iv 0/\True)/\Triple Try.prog 23 (s23 q 1 0)/\fits q/\True /\ ∀ (i1:Env),True)/\tn 6) (st':=ASt.mk [(1,.ptr 40 []),(2,.ptr 48 []),(3,.ptr 112 []),(4,iv (openE q (whenIs q 1 0)))] [(40,.cells 25 (cRun r)),(48,.cells 25 (cRun q)),(112,.cells 37 (cSpan (whenS q 1 0)))] 136) ⟨tv,⟨⟨rfl,rfl,rfl,tv⟩,(t23 (q) (1) (0)),(o0 hp),tv,(fun i1=>tv)⟩,tp 6⟩ ?_
 refine swp_seq ?_
 refine sC (cs:=[(1,CallSpec.eq (s35 q 1) [true,true])]) (kt:=[1,2,3,4,5,6]) (kh:=[40,48,112]) (q:=True/\((zE (AV.agg (cRun q))/\iv 1=iv 1/\True)/\Triple Try.prog 35 (s35 q 1)/\fits q/\True /\ ∀ (i2:Env),True)/\tn 5) (st':=ASt.mk [(1,.ptr 40 []),(2,.ptr 48 []),(3,.ptr 112 []),(4,iv (openE q (whenIs q 1 0))),(5,aInts (whereS q 1)),(6,iv (openE q (isFound q 1)))] [(40,.cells 25 (cRun r)),(48,.cells 25 (cRun q)),(112,.cells 37 (cSpan (whenS q 1 0)))] 192) ⟨tv,⟨⟨rfl,rfl,tv⟩,(t35 (q) (1)),(o1 hp),tv,(fun i2=>tv)⟩,tp 5⟩ ?_
 refine swp_seq ?_
 refine sC (cs:=[(1,CallSpec.eq (s22 q) [true])]) (kt:=[1,3,4,5,6,7,8]) (kh:=[40,112]) (q:=True/\((zE (AV.agg (cRun q))/\True)/\Triple Try.prog 22 (s22 q)/\fits q/\True /\ ∀ (i3:Env),True)/\tn 5) (st':=ASt.mk [(1,.ptr 40 []),(3,.ptr 112 []),(4,iv (openE q (whenIs q 1 0))),(5,aInts (whereS q 1)),(6,iv (openE q (isFound q 1))),(7,iv (fewP q)),(8,iv (openE q true))] [(40,.cells 25 (cRun r)),(112,.cells 37 (cSpan (whenS q 1 0)))] 248) ⟨tv,⟨⟨rfl,tv⟩,(t22 (q)),(o2 hp),tv,(fun i3=>tv)⟩,tp 5⟩ ?_
 refine swp_seq ?_
 refine sC (cs:=[(1,CallSpec.eq (s26 r 0) [true,true])]) (kt:=[1,3,4,5,6,7,8,9,10]) (kh:=[40,112,288]) (q:=True/\((zE (AV.agg (cRun r))/\iv 0=iv 0/\True)/\Triple Try.prog 26 (s26 r 0)/\fits r/\True /\ ∀ (i4:Env),True)/\tn 6) (st':=ASt.mk [(1,.ptr 40 []),(3,.ptr 112 []),(4,iv (openE q (whenIs q 1 0))),(5,aInts (whereS q 1)),(6,iv (openE q (isFound q 1))),(7,iv (fewP q)),(8,iv (openE q true)),(9,.ptr 288 []),(10,iv (openE r (isPlate r 0)))] [(40,.cells 25 (cRun r)),(112,.cells 37 (cSpan (whenS q 1 0))),(288,.cells 37 (cSpan (oldS r 0)))] 312) ⟨tv,⟨⟨rfl,rfl,tv⟩,(t26 (r) (0)),(o3 hp),tv,(fun i4=>tv)⟩,tp 6⟩ ?_
 refine swp_seq ?_
 refine sC (cs:=[(1,CallSpec.eq (s27 r) [true])]) (kt:=[1,3,4,5,6,7,8,9,10,11,12]) (kh:=[40,112,288,352]) (q:=True/\((zE (AV.agg (cRun r))/\True)/\Triple Try.prog 27 (s27 r)/\fits r/\True /\ ∀ (i5:Env),True)/\tn 6) (st':=ASt.mk [(1,.ptr 40 []),(3,.ptr 112 []),(4,iv (openE q (whenIs q 1 0))),(5,aInts (whereS q 1)),(6,iv (openE q (isFound q 1))),(7,iv (fewP q)),(8,iv (openE q true)),(9,.ptr 288 []),(10,iv (openE r (isPlate r 0))),(11,.ptr 352 []),(12,iv (openE r true))] [(40,.cells 25 (cRun r)),(112,.cells 37 (cSpan (whenS q 1 0))),(288,.cells 37 (cSpan (oldS r 0))),(352,.cells 37 (cSpan (mixesS r)))] 376) ⟨tv,⟨⟨rfl,tv⟩,(t27 (r)),(o4 hp),tv,(fun i5=>tv)⟩,tp 6⟩ ?_
 refine swp_seq ?_
 refine sC (cs:=[(1,CallSpec.eq (s31 r 2 1) [true,true,true])]) (kt:=[3,4,5,6,7,8,9,10,11,12,13,14]) (kh:=[112,288,352]) (q:=True/\((zE (AV.agg (cRun r))/\iv 2=iv 2/\iv 1=iv 1/\True)/\Triple Try.prog 31 (s31 r 2 1)/\fits r/\True /\ ∀ (i6:Env),True)/\tn 5) (st':=ASt.mk [(3,.ptr 112 []),(4,iv (openE q (whenIs q 1 0))),(5,aInts (whereS q 1)),(6,iv (openE q (isFound q 1))),(7,iv (fewP q)),(8,iv (openE q true)),(9,.ptr 288 []),(10,iv (openE r (isPlate r 0))),(11,.ptr 352 []),(12,iv (openE r true)),(13,iv (readS r 2 1)),(14,iv (openE r (readIs r 2 1)))] [(112,.cells 37 (cSpan (whenS q 1 0))),(288,.cells 37 (cSpan (oldS r 0))),(352,.cells 37 (cSpan (mixesS r)))] 432) ⟨tv,⟨⟨rfl,rfl,rfl,tv⟩,(t31 (r) (2) (1)),(o5 hp),tv,(fun i6=>tv)⟩,tp 5⟩ ?_
 refine swp_seq ?_
 refine sC (cs:=[(24,CallSpec.eq (s29 7 9) [true,true]),(30,CallSpec.eq (c19 r q) [false,false]),(38,CallSpec.eq (s29 32 57) [true,true]),(43,CallSpec.eq (s29 3 57) [true,true])]) (kt:=[0]) (kh:=[]) (q:=True/\True/\True/\(decide (openE q (whenIs q 1 0)=0)=true->(True/\True)/\True)/\(decide (openE q (whenIs q 1 0)=0)=true->((decide (openE q (whenIs q 1 0)=0)=true->decide (openE q (whenIs q 1 0)=0)=true)/\True/\True)/\True)/\((decide (openE q (whenIs q 1 0)=0)=true->decide (openE q (whenIs q 1 0)=0)=true)/\(decide (openE q (whenIs q 1 0)=0)=false->True))/\True/\((bif decide (openE q (whenIs q 1 0)=0) then decide (openE q (isFound q 1)=0) else false)=true->(True/\True)/\True)/\((bif decide (openE q (whenIs q 1 0)=0) then decide (openE q (isFound q 1)=0) else false)=true->(((bif decide (openE q (whenIs q 1 0)=0) then decide (openE q (isFound q 1)=0) else false)=true->(bif decide (openE q (whenIs q 1 0)=0) then decide (openE q (isFound q 1)=0) else false)=true)/\True/\True)/\True)/\(((bif decide (openE q (whenIs q 1 0)=0) then decide (openE q (isFound q 1)=0) else false)=true->(bif decide (openE q (whenIs q 1 0)=0) then decide (openE q (isFound q 1)=0) else false)=true)/\((bif decide (openE q (whenIs q 1 0)=0) then decide (openE q (isFound q 1)=0) else false)=false->True))/\True/\((bif bif decide (openE q (whenIs q 1 0)=0) then decide (openE q (isFound q 1)=0) else false then decide (openE q true=0) else false)=true->(True/\True)/\True)/\((bif bif decide (openE q (whenIs q 1 0)=0) then decide (openE q (isFound q 1)=0) else false then decide (openE q true=0) else false)=true->(((bif bif decide (openE q (whenIs q 1 0)=0) then decide (openE q (isFound q 1)=0) else false then decide (openE q true=0) else false)=true->(bif bif decide (openE q (whenIs q 1 0)=0) then decide (openE q (isFound q 1)=0) else false then decide (openE q true=0) else false)=true)/\True/\True)/\True)/\(((bif bif decide (openE q (whenIs q 1 0)=0) then decide (openE q (isFound q 1)=0) else false then decide (openE q true=0) else false)=true->(bif bif decide (openE q (whenIs q 1 0)=0) then decide (openE q (isFound q 1)=0) else false then decide (openE q true=0) else false)=true)/\((bif bif decide (openE q (whenIs q 1 0)=0) then decide (openE q (isFound q 1)=0) else false then decide (openE q true=0) else false)=false->True))/\True/\((bif bif bif decide (openE q (whenIs q 1 0)=0) then decide (openE q (isFound q 1)=0) else false then decide (openE q true=0) else false then decide (openE r (isPlate r 0)=0) else false)=true->(True/\True)/\True)/\((bif bif bif decide (openE q (whenIs q 1 0)=0) then decide (openE q (isFound q 1)=0) else false then decide (openE q true=0) else false then decide (openE r (isPlate r 0)=0) else false)=true->(((bif bif bif decide (openE q (whenIs q 1 0)=0) then decide (openE q (isFound q 1)=0) else false then decide (openE q true=0) else false then decide (openE r (isPlate r 0)=0) else false)=true->(bif bif bif decide (openE q (whenIs q 1 0)=0) then decide (openE q (isFound q 1)=0) else false then decide (openE q true=0) else false then decide (openE r (isPlate r 0)=0) else false)=true)/\True/\True)/\True)/\(((bif bif bif decide (openE q (whenIs q 1 0)=0) then decide (openE q (isFound q 1)=0) else false then decide (openE q true=0) else false then decide (openE r (isPlate r 0)=0) else false)=true->(bif bif bif decide (openE q (whenIs q 1 0)=0) then decide (openE q (isFound q 1)=0) else false then decide (openE q true=0) else false then decide (openE r (isPlate r 0)=0) else false)=true)/\((bif bif bif decide (openE q (whenIs q 1 0)=0) then decide (openE q (isFound q 1)=0) else false then decide (openE q true=0) else false then decide (openE r (isPlate r 0)=0) else false)=false->True))/\True/\((bif bif bif bif decide (openE q (whenIs q 1 0)=0) then decide (openE q (isFound q 1)=0) else false then decide (openE q true=0) else false then decide (openE r (isPlate r 0)=0) else false then decide (openE r true=0) else false)=true->(True/\True)/\True)/\((bif bif bif bif decide (openE q (whenIs q 1 0)=0) then decide (openE q (isFound q 1)=0) else false then decide (openE q true=0) else false then decide (openE r (isPlate r 0)=0) else false then decide (openE r true=0) else false)=true->(((bif bif bif bif decide (openE q (whenIs q 1 0)=0) then decide (openE q (isFound q 1)=0) else false then decide (openE q true=0) else false then decide (openE r (isPlate r 0)=0) else false then decide (openE r true=0) else false)=true->(bif bif bif bif decide (openE q (whenIs q 1 0)=0) then decide (openE q (isFound q 1)=0) else false then decide (openE q true=0) else false then decide (openE r (isPlate r 0)=0) else false then decide (openE r true=0) else false)=true)/\True/\True)/\True)/\(((bif bif bif bif decide (openE q (whenIs q 1 0)=0) then decide (openE q (isFound q 1)=0) else false then decide (openE q true=0) else false then decide (openE r (isPlate r 0)=0) else false then decide (openE r true=0) else false)=true->(bif bif bif bif decide (openE q (whenIs q 1 0)=0) then decide (openE q (isFound q 1)=0) else false then decide (openE q true=0) else false then decide (openE r (isPlate r 0)=0) else false then decide (openE r true=0) else false)=true)/\((bif bif bif bif decide (openE q (whenIs q 1 0)=0) then decide (openE q (isFound q 1)=0) else false then decide (openE q true=0) else false then decide (openE r (isPlate r 0)=0) else false then decide (openE r true=0) else false)=false->True))/\True/\((bif bif bif bif bif decide (openE q (whenIs q 1 0)=0) then decide (openE q (isFound q 1)=0) else false then decide (openE q true=0) else false then decide (openE r (isPlate r 0)=0) else false then decide (openE r true=0) else false then decide (openE r (readIs r 2 1)=0) else false)=true->(True/\True)/\True)/\((bif bif bif bif bif decide (openE q (whenIs q 1 0)=0) then decide (openE q (isFound q 1)=0) else false then decide (openE q true=0) else false then decide (openE r (isPlate r 0)=0) else false then decide (openE r true=0) else false then decide (openE r (readIs r 2 1)=0) else false)=true->(True/\True/\True/\True)/\(iv 7=iv 7/\iv 9=iv 9/\True)/\Triple Try.prog 29 (s29 7 9)/\True/\True /\ ∀ (i34:Env),True)/\((bif bif bif bif bif decide (openE q (whenIs q 1 0)=0) then decide (openE q (isFound q 1)=0) else false then decide (openE q true=0) else false then decide (openE r (isPlate r 0)=0) else false then decide (openE r true=0) else false then decide (openE r (readIs r 2 1)=0) else false)=true->(((bif bif bif bif bif decide (openE q (whenIs q 1 0)=0) then decide (openE q (isFound q 1)=0) else false then decide (openE q true=0) else false then decide (openE r (isPlate r 0)=0) else false then decide (openE r true=0) else false then decide (openE r (readIs r 2 1)=0) else false)=true->(bif bif bif bif bif decide (openE q (whenIs q 1 0)=0) then decide (openE q (isFound q 1)=0) else false then decide (openE q true=0) else false then decide (openE r (isPlate r 0)=0) else false then decide (openE r true=0) else false then decide (openE r (readIs r 2 1)=0) else false)=true)/\((bif bif bif bif bif decide (openE q (whenIs q 1 0)=0) then decide (openE q (isFound q 1)=0) else false then decide (openE q true=0) else false then decide (openE r (isPlate r 0)=0) else false then decide (openE r true=0) else false then decide (openE r (readIs r 2 1)=0) else false)=true->(bif bif bif bif bif decide (openE q (whenIs q 1 0)=0) then decide (openE q (isFound q 1)=0) else false then decide (openE q true=0) else false then decide (openE r (isPlate r 0)=0) else false then decide (openE r true=0) else false then decide (openE r (readIs r 2 1)=0) else false)=true)/\True)/\True)/\(((bif bif bif bif bif decide (openE q (whenIs q 1 0)=0) then decide (openE q (isFound q 1)=0) else false then decide (openE q true=0) else false then decide (openE r (isPlate r 0)=0) else false then decide (openE r true=0) else false then decide (openE r (readIs r 2 1)=0) else false)=true->(bif bif bif bif bif decide (openE q (whenIs q 1 0)=0) then decide (openE q (isFound q 1)=0) else false then decide (openE q true=0) else false then decide (openE r (isPlate r 0)=0) else false then decide (openE r true=0) else false then decide (openE r (readIs r 2 1)=0) else false)=true)/\((bif bif bif bif bif decide (openE q (whenIs q 1 0)=0) then decide (openE q (isFound q 1)=0) else false then decide (openE q true=0) else false then decide (openE r (isPlate r 0)=0) else false then decide (openE r true=0) else false then decide (openE r (readIs r 2 1)=0) else false)=false->True))/\True/\((bif bif bif bif bif bif decide (openE q (whenIs q 1 0)=0) then decide (openE q (isFound q 1)=0) else false then decide (openE q true=0) else false then decide (openE r (isPlate r 0)=0) else false then decide (openE r true=0) else false then decide (openE r (readIs r 2 1)=0) else false then decide ((whenS q 1 0).lo=7) && (decide ((whenS q 1 0).hi=9) && true) else false)=true->(True/\True)/\True)/\((bif bif bif bif bif bif decide (openE q (whenIs q 1 0)=0) then decide (openE q (isFound q 1)=0) else false then decide (openE q true=0) else false then decide (openE r (isPlate r 0)=0) else false then decide (openE r true=0) else false then decide (openE r (readIs r 2 1)=0) else false then decide ((whenS q 1 0).lo=7) && (decide ((whenS q 1 0).hi=9) && true) else false)=true->(True/\True)/\True)/\((bif bif bif bif bif bif decide (openE q (whenIs q 1 0)=0) then decide (openE q (isFound q 1)=0) else false then decide (openE q true=0) else false then decide (openE r (isPlate r 0)=0) else false then decide (openE r true=0) else false then decide (openE r (readIs r 2 1)=0) else false then decide ((whenS q 1 0).lo=7) && (decide ((whenS q 1 0).hi=9) && true) else false)=true->(True/\((bif bif bif bif bif bif decide (openE q (whenIs q 1 0)=0) then decide (openE q (isFound q 1)=0) else false then decide (openE q true=0) else false then decide (openE r (isPlate r 0)=0) else false then decide (openE r true=0) else false then decide (openE r (readIs r 2 1)=0) else false then decide ((whenS q 1 0).lo=7) && (decide ((whenS q 1 0).hi=9) && true) else false)=true->(bif bif bif bif bif bif decide (openE q (whenIs q 1 0)=0) then decide (openE q (isFound q 1)=0) else false then decide (openE q true=0) else false then decide (openE r (isPlate r 0)=0) else false then decide (openE r true=0) else false then decide (openE r (readIs r 2 1)=0) else false then decide ((whenS q 1 0).lo=7) && (decide ((whenS q 1 0).hi=9) && true) else false)=true)/\((bif bif bif bif bif bif decide (openE q (whenIs q 1 0)=0) then decide (openE q (isFound q 1)=0) else false then decide (openE q true=0) else false then decide (openE r (isPlate r 0)=0) else false then decide (openE r true=0) else false then decide (openE r (readIs r 2 1)=0) else false then decide ((whenS q 1 0).lo=7) && (decide ((whenS q 1 0).hi=9) && true) else false)=true->(bif bif bif bif bif bif decide (openE q (whenIs q 1 0)=0) then decide (openE q (isFound q 1)=0) else false then decide (openE q true=0) else false then decide (openE r (isPlate r 0)=0) else false then decide (openE r true=0) else false then decide (openE r (readIs r 2 1)=0) else false then decide ((whenS q 1 0).lo=7) && (decide ((whenS q 1 0).hi=9) && true) else false)=true)/\True)/\((1=1/\(whereS q 1).length=(whereS q 1).length /\ ∀ (i45:Nat),i45 < (whereS q 1).length -> [iv ((whereS q 1).getD i45 0)] = [iv ((whereS q 1).getD i45 0)])/\(1=1/\1=1 /\ ∀ (i47:Nat),i47 < List.length [1]->List.getD [[iv 1]] i47 (TI.za ti3) = [iv (List.getD [1] i47 0)])/\True)/\Triple Try.prog 37 (c19 r q)/\(whereS q 1).length<=1125899906842624/\True /\ ∀ (i49:Env),True)/\(((bif bif bif bif bif bif decide (openE q (whenIs q 1 0)=0) then decide (openE q (isFound q 1)=0) else false then decide (openE q true=0) else false then decide (openE r (isPlate r 0)=0) else false then decide (openE r true=0) else false then decide (openE r (readIs r 2 1)=0) else false then decide ((whenS q 1 0).lo=7) && (decide ((whenS q 1 0).hi=9) && true) else false)=true->(bif bif bif bif bif bif decide (openE q (whenIs q 1 0)=0) then decide (openE q (isFound q 1)=0) else false then decide (openE q true=0) else false then decide (openE r (isPlate r 0)=0) else false then decide (openE r true=0) else false then decide (openE r (readIs r 2 1)=0) else false then decide ((whenS q 1 0).lo=7) && (decide ((whenS q 1 0).hi=9) && true) else false)=true)/\((bif bif bif bif bif bif decide (openE q (whenIs q 1 0)=0) then decide (openE q (isFound q 1)=0) else false then decide (openE q true=0) else false then decide (openE r (isPlate r 0)=0) else false then decide (openE r true=0) else false then decide (openE r (readIs r 2 1)=0) else false then decide ((whenS q 1 0).lo=7) && (decide ((whenS q 1 0).hi=9) && true) else false)=false->True))/\True/\((bif bif bif bif bif bif bif decide (openE q (whenIs q 1 0)=0) then decide (openE q (isFound q 1)=0) else false then decide (openE q true=0) else false then decide (openE r (isPlate r 0)=0) else false then decide (openE r true=0) else false then decide (openE r (readIs r 2 1)=0) else false then decide ((whenS q 1 0).lo=7) && (decide ((whenS q 1 0).hi=9) && true) else false then sameInts (whereS q 1) [1] else false)=true->(True/\True)/\True)/\((bif bif bif bif bif bif bif decide (openE q (whenIs q 1 0)=0) then decide (openE q (isFound q 1)=0) else false then decide (openE q true=0) else false then decide (openE r (isPlate r 0)=0) else false then decide (openE r true=0) else false then decide (openE r (readIs r 2 1)=0) else false then decide ((whenS q 1 0).lo=7) && (decide ((whenS q 1 0).hi=9) && true) else false then sameInts (whereS q 1) [1] else false)=true->(((bif bif bif bif bif bif bif decide (openE q (whenIs q 1 0)=0) then decide (openE q (isFound q 1)=0) else false then decide (openE q true=0) else false then decide (openE r (isPlate r 0)=0) else false then decide (openE r true=0) else false then decide (openE r (readIs r 2 1)=0) else false then decide ((whenS q 1 0).lo=7) && (decide ((whenS q 1 0).hi=9) && true) else false then sameInts (whereS q 1) [1] else false)=true->(bif bif bif bif bif bif bif decide (openE q (whenIs q 1 0)=0) then decide (openE q (isFound q 1)=0) else false then decide (openE q true=0) else false then decide (openE r (isPlate r 0)=0) else false then decide (openE r true=0) else false then decide (openE r (readIs r 2 1)=0) else false then decide ((whenS q 1 0).lo=7) && (decide ((whenS q 1 0).hi=9) && true) else false then sameInts (whereS q 1) [1] else false)=true)/\True/\True)/\True)/\(((bif bif bif bif bif bif bif decide (openE q (whenIs q 1 0)=0) then decide (openE q (isFound q 1)=0) else false then decide (openE q true=0) else false then decide (openE r (isPlate r 0)=0) else false then decide (openE r true=0) else false then decide (openE r (readIs r 2 1)=0) else false then decide ((whenS q 1 0).lo=7) && (decide ((whenS q 1 0).hi=9) && true) else false then sameInts (whereS q 1) [1] else false)=true->(bif bif bif bif bif bif bif decide (openE q (whenIs q 1 0)=0) then decide (openE q (isFound q 1)=0) else false then decide (openE q true=0) else false then decide (openE r (isPlate r 0)=0) else false then decide (openE r true=0) else false then decide (openE r (readIs r 2 1)=0) else false then decide ((whenS q 1 0).lo=7) && (decide ((whenS q 1 0).hi=9) && true) else false then sameInts (whereS q 1) [1] else false)=true)/\((bif bif bif bif bif bif bif decide (openE q (whenIs q 1 0)=0) then decide (openE q (isFound q 1)=0) else false then decide (openE q true=0) else false then decide (openE r (isPlate r 0)=0) else false then decide (openE r true=0) else false then decide (openE r (readIs r 2 1)=0) else false then decide ((whenS q 1 0).lo=7) && (decide ((whenS q 1 0).hi=9) && true) else false then sameInts (whereS q 1) [1] else false)=false->True))/\True/\((bif bif bif bif bif bif bif bif decide (openE q (whenIs q 1 0)=0) then decide (openE q (isFound q 1)=0) else false then decide (openE q true=0) else false then decide (openE r (isPlate r 0)=0) else false then decide (openE r true=0) else false then decide (openE r (readIs r 2 1)=0) else false then decide ((whenS q 1 0).lo=7) && (decide ((whenS q 1 0).hi=9) && true) else false then sameInts (whereS q 1) [1] else false then decide (fewP q=2) else false)=true->(True/\True)/\True)/\((bif bif bif bif bif bif bif bif decide (openE q (whenIs q 1 0)=0) then decide (openE q (isFound q 1)=0) else false then decide (openE q true=0) else false then decide (openE r (isPlate r 0)=0) else false then decide (openE r true=0) else false then decide (openE r (readIs r 2 1)=0) else false then decide ((whenS q 1 0).lo=7) && (decide ((whenS q 1 0).hi=9) && true) else false then sameInts (whereS q 1) [1] else false then decide (fewP q=2) else false)=true->(True/\True/\True/\True)/\(iv 32=iv 32/\iv 57=iv 57/\True)/\Triple Try.prog 29 (s29 32 57)/\True/\True /\ ∀ (i59:Env),True)/\((bif bif bif bif bif bif bif bif decide (openE q (whenIs q 1 0)=0) then decide (openE q (isFound q 1)=0) else false then decide (openE q true=0) else false then decide (openE r (isPlate r 0)=0) else false then decide (openE r true=0) else false then decide (openE r (readIs r 2 1)=0) else false then decide ((whenS q 1 0).lo=7) && (decide ((whenS q 1 0).hi=9) && true) else false then sameInts (whereS q 1) [1] else false then decide (fewP q=2) else false)=true->(((bif bif bif bif bif bif bif bif decide (openE q (whenIs q 1 0)=0) then decide (openE q (isFound q 1)=0) else false then decide (openE q true=0) else false then decide (openE r (isPlate r 0)=0) else false then decide (openE r true=0) else false then decide (openE r (readIs r 2 1)=0) else false then decide ((whenS q 1 0).lo=7) && (decide ((whenS q 1 0).hi=9) && true) else false then sameInts (whereS q 1) [1] else false then decide (fewP q=2) else false)=true->(bif bif bif bif bif bif bif bif decide (openE q (whenIs q 1 0)=0) then decide (openE q (isFound q 1)=0) else false then decide (openE q true=0) else false then decide (openE r (isPlate r 0)=0) else false then decide (openE r true=0) else false then decide (openE r (readIs r 2 1)=0) else false then decide ((whenS q 1 0).lo=7) && (decide ((whenS q 1 0).hi=9) && true) else false then sameInts (whereS q 1) [1] else false then decide (fewP q=2) else false)=true)/\((bif bif bif bif bif bif bif bif decide (openE q (whenIs q 1 0)=0) then decide (openE q (isFound q 1)=0) else false then decide (openE q true=0) else false then decide (openE r (isPlate r 0)=0) else false then decide (openE r true=0) else false then decide (openE r (readIs r 2 1)=0) else false then decide ((whenS q 1 0).lo=7) && (decide ((whenS q 1 0).hi=9) && true) else false then sameInts (whereS q 1) [1] else false then decide (fewP q=2) else false)=true->(bif bif bif bif bif bif bif bif decide (openE q (whenIs q 1 0)=0) then decide (openE q (isFound q 1)=0) else false then decide (openE q true=0) else false then decide (openE r (isPlate r 0)=0) else false then decide (openE r true=0) else false then decide (openE r (readIs r 2 1)=0) else false then decide ((whenS q 1 0).lo=7) && (decide ((whenS q 1 0).hi=9) && true) else false then sameInts (whereS q 1) [1] else false then decide (fewP q=2) else false)=true)/\True)/\True)/\(((bif bif bif bif bif bif bif bif decide (openE q (whenIs q 1 0)=0) then decide (openE q (isFound q 1)=0) else false then decide (openE q true=0) else false then decide (openE r (isPlate r 0)=0) else false then decide (openE r true=0) else false then decide (openE r (readIs r 2 1)=0) else false then decide ((whenS q 1 0).lo=7) && (decide ((whenS q 1 0).hi=9) && true) else false then sameInts (whereS q 1) [1] else false then decide (fewP q=2) else false)=true->(bif bif bif bif bif bif bif bif decide (openE q (whenIs q 1 0)=0) then decide (openE q (isFound q 1)=0) else false then decide (openE q true=0) else false then decide (openE r (isPlate r 0)=0) else false then decide (openE r true=0) else false then decide (openE r (readIs r 2 1)=0) else false then decide ((whenS q 1 0).lo=7) && (decide ((whenS q 1 0).hi=9) && true) else false then sameInts (whereS q 1) [1] else false then decide (fewP q=2) else false)=true)/\((bif bif bif bif bif bif bif bif decide (openE q (whenIs q 1 0)=0) then decide (openE q (isFound q 1)=0) else false then decide (openE q true=0) else false then decide (openE r (isPlate r 0)=0) else false then decide (openE r true=0) else false then decide (openE r (readIs r 2 1)=0) else false then decide ((whenS q 1 0).lo=7) && (decide ((whenS q 1 0).hi=9) && true) else false then sameInts (whereS q 1) [1] else false then decide (fewP q=2) else false)=false->True))/\True/\((bif bif bif bif bif bif bif bif bif decide (openE q (whenIs q 1 0)=0) then decide (openE q (isFound q 1)=0) else false then decide (openE q true=0) else false then decide (openE r (isPlate r 0)=0) else false then decide (openE r true=0) else false then decide (openE r (readIs r 2 1)=0) else false then decide ((whenS q 1 0).lo=7) && (decide ((whenS q 1 0).hi=9) && true) else false then sameInts (whereS q 1) [1] else false then decide (fewP q=2) else false then decide ((oldS r 0).lo=32) && (decide ((oldS r 0).hi=57) && true) else false)=true->(True/\True)/\True)/\((bif bif bif bif bif bif bif bif bif decide (openE q (whenIs q 1 0)=0) then decide (openE q (isFound q 1)=0) else false then decide (openE q true=0) else false then decide (openE r (isPlate r 0)=0) else false then decide (openE r true=0) else false then decide (openE r (readIs r 2 1)=0) else false then decide ((whenS q 1 0).lo=7) && (decide ((whenS q 1 0).hi=9) && true) else false then sameInts (whereS q 1) [1] else false then decide (fewP q=2) else false then decide ((oldS r 0).lo=32) && (decide ((oldS r 0).hi=57) && true) else false)=true->(True/\True/\True/\True)/\(iv 3=iv 3/\iv 57=iv 57/\True)/\Triple Try.prog 29 (s29 3 57)/\True/\True /\ ∀ (i67:Env),True)/\((bif bif bif bif bif bif bif bif bif decide (openE q (whenIs q 1 0)=0) then decide (openE q (isFound q 1)=0) else false then decide (openE q true=0) else false then decide (openE r (isPlate r 0)=0) else false then decide (openE r true=0) else false then decide (openE r (readIs r 2 1)=0) else false then decide ((whenS q 1 0).lo=7) && (decide ((whenS q 1 0).hi=9) && true) else false then sameInts (whereS q 1) [1] else false then decide (fewP q=2) else false then decide ((oldS r 0).lo=32) && (decide ((oldS r 0).hi=57) && true) else false)=true->(((bif bif bif bif bif bif bif bif bif decide (openE q (whenIs q 1 0)=0) then decide (openE q (isFound q 1)=0) else false then decide (openE q true=0) else false then decide (openE r (isPlate r 0)=0) else false then decide (openE r true=0) else false then decide (openE r (readIs r 2 1)=0) else false then decide ((whenS q 1 0).lo=7) && (decide ((whenS q 1 0).hi=9) && true) else false then sameInts (whereS q 1) [1] else false then decide (fewP q=2) else false then decide ((oldS r 0).lo=32) && (decide ((oldS r 0).hi=57) && true) else false)=true->(bif bif bif bif bif bif bif bif bif decide (openE q (whenIs q 1 0)=0) then decide (openE q (isFound q 1)=0) else false then decide (openE q true=0) else false then decide (openE r (isPlate r 0)=0) else false then decide (openE r true=0) else false then decide (openE r (readIs r 2 1)=0) else false then decide ((whenS q 1 0).lo=7) && (decide ((whenS q 1 0).hi=9) && true) else false then sameInts (whereS q 1) [1] else false then decide (fewP q=2) else false then decide ((oldS r 0).lo=32) && (decide ((oldS r 0).hi=57) && true) else false)=true)/\((bif bif bif bif bif bif bif bif bif decide (openE q (whenIs q 1 0)=0) then decide (openE q (isFound q 1)=0) else false then decide (openE q true=0) else false then decide (openE r (isPlate r 0)=0) else false then decide (openE r true=0) else false then decide (openE r (readIs r 2 1)=0) else false then decide ((whenS q 1 0).lo=7) && (decide ((whenS q 1 0).hi=9) && true) else false then sameInts (whereS q 1) [1] else false then decide (fewP q=2) else false then decide ((oldS r 0).lo=32) && (decide ((oldS r 0).hi=57) && true) else false)=true->(bif bif bif bif bif bif bif bif bif decide (openE q (whenIs q 1 0)=0) then decide (openE q (isFound q 1)=0) else false then decide (openE q true=0) else false then decide (openE r (isPlate r 0)=0) else false then decide (openE r true=0) else false then decide (openE r (readIs r 2 1)=0) else false then decide ((whenS q 1 0).lo=7) && (decide ((whenS q 1 0).hi=9) && true) else false then sameInts (whereS q 1) [1] else false then decide (fewP q=2) else false then decide ((oldS r 0).lo=32) && (decide ((oldS r 0).hi=57) && true) else false)=true)/\True)/\True)/\(((bif bif bif bif bif bif bif bif bif decide (openE q (whenIs q 1 0)=0) then decide (openE q (isFound q 1)=0) else false then decide (openE q true=0) else false then decide (openE r (isPlate r 0)=0) else false then decide (openE r true=0) else false then decide (openE r (readIs r 2 1)=0) else false then decide ((whenS q 1 0).lo=7) && (decide ((whenS q 1 0).hi=9) && true) else false then sameInts (whereS q 1) [1] else false then decide (fewP q=2) else false then decide ((oldS r 0).lo=32) && (decide ((oldS r 0).hi=57) && true) else false)=true->(bif bif bif bif bif bif bif bif bif decide (openE q (whenIs q 1 0)=0) then decide (openE q (isFound q 1)=0) else false then decide (openE q true=0) else false then decide (openE r (isPlate r 0)=0) else false then decide (openE r true=0) else false then decide (openE r (readIs r 2 1)=0) else false then decide ((whenS q 1 0).lo=7) && (decide ((whenS q 1 0).hi=9) && true) else false then sameInts (whereS q 1) [1] else false then decide (fewP q=2) else false then decide ((oldS r 0).lo=32) && (decide ((oldS r 0).hi=57) && true) else false)=true)/\((bif bif bif bif bif bif bif bif bif decide (openE q (whenIs q 1 0)=0) then decide (openE q (isFound q 1)=0) else false then decide (openE q true=0) else false then decide (openE r (isPlate r 0)=0) else false then decide (openE r true=0) else false then decide (openE r (readIs r 2 1)=0) else false then decide ((whenS q 1 0).lo=7) && (decide ((whenS q 1 0).hi=9) && true) else false then sameInts (whereS q 1) [1] else false then decide (fewP q=2) else false then decide ((oldS r 0).lo=32) && (decide ((oldS r 0).hi=57) && true) else false)=false->True))/\True/\((bif bif bif bif bif bif bif bif bif bif decide (openE q (whenIs q 1 0)=0) then decide (openE q (isFound q 1)=0) else false then decide (openE q true=0) else false then decide (openE r (isPlate r 0)=0) else false then decide (openE r true=0) else false then decide (openE r (readIs r 2 1)=0) else false then decide ((whenS q 1 0).lo=7) && (decide ((whenS q 1 0).hi=9) && true) else false then sameInts (whereS q 1) [1] else false then decide (fewP q=2) else false then decide ((oldS r 0).lo=32) && (decide ((oldS r 0).hi=57) && true) else false then decide ((mixesS r).lo=3) && (decide ((mixesS r).hi=57) && true) else false)=true->(True/\True)/\True)/\((bif bif bif bif bif bif bif bif bif bif decide (openE q (whenIs q 1 0)=0) then decide (openE q (isFound q 1)=0) else false then decide (openE q true=0) else false then decide (openE r (isPlate r 0)=0) else false then decide (openE r true=0) else false then decide (openE r (readIs r 2 1)=0) else false then decide ((whenS q 1 0).lo=7) && (decide ((whenS q 1 0).hi=9) && true) else false then sameInts (whereS q 1) [1] else false then decide (fewP q=2) else false then decide ((oldS r 0).lo=32) && (decide ((oldS r 0).hi=57) && true) else false then decide ((mixesS r).lo=3) && (decide ((mixesS r).hi=57) && true) else false)=true->(((bif bif bif bif bif bif bif bif bif bif decide (openE q (whenIs q 1 0)=0) then decide (openE q (isFound q 1)=0) else false then decide (openE q true=0) else false then decide (openE r (isPlate r 0)=0) else false then decide (openE r true=0) else false then decide (openE r (readIs r 2 1)=0) else false then decide ((whenS q 1 0).lo=7) && (decide ((whenS q 1 0).hi=9) && true) else false then sameInts (whereS q 1) [1] else false then decide (fewP q=2) else false then decide ((oldS r 0).lo=32) && (decide ((oldS r 0).hi=57) && true) else false then decide ((mixesS r).lo=3) && (decide ((mixesS r).hi=57) && true) else false)=true->(bif bif bif bif bif bif bif bif bif bif decide (openE q (whenIs q 1 0)=0) then decide (openE q (isFound q 1)=0) else false then decide (openE q true=0) else false then decide (openE r (isPlate r 0)=0) else false then decide (openE r true=0) else false then decide (openE r (readIs r 2 1)=0) else false then decide ((whenS q 1 0).lo=7) && (decide ((whenS q 1 0).hi=9) && true) else false then sameInts (whereS q 1) [1] else false then decide (fewP q=2) else false then decide ((oldS r 0).lo=32) && (decide ((oldS r 0).hi=57) && true) else false then decide ((mixesS r).lo=3) && (decide ((mixesS r).hi=57) && true) else false)=true)/\True/\True)/\True)/\(((bif bif bif bif bif bif bif bif bif bif decide (openE q (whenIs q 1 0)=0) then decide (openE q (isFound q 1)=0) else false then decide (openE q true=0) else false then decide (openE r (isPlate r 0)=0) else false then decide (openE r true=0) else false then decide (openE r (readIs r 2 1)=0) else false then decide ((whenS q 1 0).lo=7) && (decide ((whenS q 1 0).hi=9) && true) else false then sameInts (whereS q 1) [1] else false then decide (fewP q=2) else false then decide ((oldS r 0).lo=32) && (decide ((oldS r 0).hi=57) && true) else false then decide ((mixesS r).lo=3) && (decide ((mixesS r).hi=57) && true) else false)=true->(bif bif bif bif bif bif bif bif bif bif decide (openE q (whenIs q 1 0)=0) then decide (openE q (isFound q 1)=0) else false then decide (openE q true=0) else false then decide (openE r (isPlate r 0)=0) else false then decide (openE r true=0) else false then decide (openE r (readIs r 2 1)=0) else false then decide ((whenS q 1 0).lo=7) && (decide ((whenS q 1 0).hi=9) && true) else false then sameInts (whereS q 1) [1] else false then decide (fewP q=2) else false then decide ((oldS r 0).lo=32) && (decide ((oldS r 0).hi=57) && true) else false then decide ((mixesS r).lo=3) && (decide ((mixesS r).hi=57) && true) else false)=true)/\((bif bif bif bif bif bif bif bif bif bif decide (openE q (whenIs q 1 0)=0) then decide (openE q (isFound q 1)=0) else false then decide (openE q true=0) else false then decide (openE r (isPlate r 0)=0) else false then decide (openE r true=0) else false then decide (openE r (readIs r 2 1)=0) else false then decide ((whenS q 1 0).lo=7) && (decide ((whenS q 1 0).hi=9) && true) else false then sameInts (whereS q 1) [1] else false then decide (fewP q=2) else false then decide ((oldS r 0).lo=32) && (decide ((oldS r 0).hi=57) && true) else false then decide ((mixesS r).lo=3) && (decide ((mixesS r).hi=57) && true) else false)=false->True))/\True/\True) (st':=ASt.mk [(0,bv (bif bif bif bif bif bif bif bif bif bif bif decide (openE q (whenIs q 1 0)=0) then decide (openE q (isFound q 1)=0) else false then decide (openE q true=0) else false then decide (openE r (isPlate r 0)=0) else false then decide (openE r true=0) else false then decide (openE r (readIs r 2 1)=0) else false then decide ((whenS q 1 0).lo=7) && (decide ((whenS q 1 0).hi=9) && true) else false then sameInts (whereS q 1) [1] else false then decide (fewP q=2) else false then decide ((oldS r 0).lo=32) && (decide ((oldS r 0).hi=57) && true) else false then decide ((mixesS r).lo=3) && (decide ((mixesS r).hi=57) && true) else false then decide (readS r 2 1=3) else false))] [] 840) ⟨tv,tv,tv,(fun h7=>⟨⟨tv,tv⟩,tv⟩),(fun h8=>⟨⟨(fun h9=>h8),tv,tv⟩,tv⟩),⟨(fun h10=>h10),(fun h11=>tv)⟩,tv,(fun h12=>⟨⟨tv,tv⟩,tv⟩),(fun h13=>⟨⟨(fun h14=>h13),tv,tv⟩,tv⟩),⟨(fun h15=>h15),(fun h16=>tv)⟩,tv,(fun h17=>⟨⟨tv,tv⟩,tv⟩),(fun h18=>⟨⟨(fun h19=>h18),tv,tv⟩,tv⟩),⟨(fun h20=>h20),(fun h21=>tv)⟩,tv,(fun h22=>⟨⟨tv,tv⟩,tv⟩),(fun h23=>⟨⟨(fun h24=>h23),tv,tv⟩,tv⟩),⟨(fun h25=>h25),(fun h26=>tv)⟩,tv,(fun h27=>⟨⟨tv,tv⟩,tv⟩),(fun h28=>⟨⟨(fun h29=>h28),tv,tv⟩,tv⟩),⟨(fun h30=>h30),(fun h31=>tv)⟩,tv,(fun h32=>⟨⟨tv,tv⟩,tv⟩),(fun h33=>⟨⟨tv,tv,tv,tv⟩,⟨rfl,rfl,tv⟩,(t29 (7) (9)),tv,tv,(fun i34=>tv)⟩),(fun h35=>⟨⟨(fun h36=>h35),(fun h37=>h35),tv⟩,tv⟩),⟨(fun h38=>h38),(fun h39=>tv)⟩,tv,(fun h40=>⟨⟨tv,tv⟩,tv⟩),(fun h41=>⟨⟨tv,tv⟩,tv⟩),(fun h42=>⟨⟨tv,(fun h43=>h42),(fun h44=>h42),tv⟩,⟨⟨rfl,rfl,(fun i45=>(fun h46=>rfl))⟩,⟨rfl,rfl,(fun i47=>(fun h48=>(o6 hp h42 i47 h48)))⟩,tv⟩,(t37 _ _),(o7 hp h42),tv,(fun i49=>tv)⟩),⟨(fun h50=>h50),(fun h51=>tv)⟩,tv,(fun h52=>⟨⟨tv,tv⟩,tv⟩),(fun h53=>⟨⟨(fun h54=>h53),tv,tv⟩,tv⟩),⟨(fun h55=>h55),(fun h56=>tv)⟩,tv,(fun h57=>⟨⟨tv,tv⟩,tv⟩),(fun h58=>⟨⟨tv,tv,tv,tv⟩,⟨rfl,rfl,tv⟩,(t29 (32) (57)),tv,tv,(fun i59=>tv)⟩),(fun h60=>⟨⟨(fun h61=>h60),(fun h62=>h60),tv⟩,tv⟩),⟨(fun h63=>h63),(fun h64=>tv)⟩,tv,(fun h65=>⟨⟨tv,tv⟩,tv⟩),(fun h66=>⟨⟨tv,tv,tv,tv⟩,⟨rfl,rfl,tv⟩,(t29 (3) (57)),tv,tv,(fun i67=>tv)⟩),(fun h68=>⟨⟨(fun h69=>h68),(fun h70=>h68),tv⟩,tv⟩),⟨(fun h71=>h71),(fun h72=>tv)⟩,tv,(fun h73=>⟨⟨tv,tv⟩,tv⟩),(fun h74=>⟨⟨(fun h75=>h74),tv,tv⟩,tv⟩),⟨(fun h76=>h76),(fun h77=>tv)⟩,tv,tv⟩ ?_
 refine swp_ret ?_
 exact rQ [] ((True/\True)/\(zN (bv (bif bif bif bif bif bif bif bif bif bif bif decide (openE q (whenIs q 1 0)=0) then decide (openE q (isFound q 1)=0) else false then decide (openE q true=0) else false then decide (openE r (isPlate r 0)=0) else false then decide (openE r true=0) else false then decide (openE r (readIs r 2 1)=0) else false then decide ((whenS q 1 0).lo=7) && (decide ((whenS q 1 0).hi=9) && true) else false then sameInts (whereS q 1) [1] else false then decide (fewP q=2) else false then decide ((oldS r 0).lo=32) && (decide ((oldS r 0).hi=57) && true) else false then decide ((mixesS r).lo=3) && (decide ((mixesS r).hi=57) && true) else false then decide (readS r 2 1=3) else false)) (bv true))/\T3) ⟨⟨tv,tv⟩,⟨(congrArg bv (o8 hp)),rfl⟩,rfl,rfl,rfl⟩
theorem tw19 (r q:Run):Triple Try.prog 19 (sw19 r q):=by
 apply w19
 case o7=>rintro ⟨rfl,rfl⟩ _; rw [x_where]; decide
 case o8 =>
  rintro ⟨rfl,rfl⟩
  obtain ⟨h1,h2,h3,h4,h5,h6⟩:=x_ok
  rw [h1,h2,h3,h4,h5,h6,x_where,x_when,x_old,x_mix,x_read,x_few]
  decide
 all_goals (rintro ⟨rfl,rfl⟩; first | exact small_fits small_exR | exact small_fits small_exQ | skip)
 all_goals (intro _ i hi; have:i=0:=by simpa using hi)
 all_goals (subst this; rfl)
theorem t19:Triple Try.prog 19 s19:=⟨(tw19 exR exQ).1,fun _=>(tw19 exR exQ).2 ⟨rfl,rfl⟩⟩
end Go.Ab
namespace Go.Sh
def chFrom (r:Run) (first:List Int):Nat->List (List Int)
 | 0=>[first]
 | k + 1=>(chFrom r first k).flatMap fun l=>(fnd r l.length).frm.map fun m=>l ++ [m]
theorem chFrom_head (r:Run):∀ k first,chFrom r first (k + 1)=(fnd r first.length).frm.flatMap fun m=>chFrom r (first ++ [m]) k:=by
 intro k
 induction k with
 | zero =>
  intro first
  simp only [chFrom,List.flatMap_cons,List.flatMap_nil,List.append_nil]
  generalize (fnd r first.length).frm=l
  induction l with
  | nil=>rfl
  | cons x l ih=>rw [List.map_cons,List.flatMap_cons,ih]; rfl
 | succ k ih =>
  intro first
  rw [chFrom,ih,List.flatMap_assoc]
  rfl
theorem choicesN_from (r:Run):∀ k first,choicesN r k first=chFrom r first k:=by
 intro k
 induction k with
 | zero=>intro first; rfl
 | succ k ih =>
  intro first
  rw [choicesN,chFrom_head]
  congr 1
  funext m
  exact ih _
theorem choices_from (r:Run):choices r []=chFrom r [] r.found.length:=by
 rw [choices,choicesN_from]; rfl
theorem spanTo_snoc (r:Run) (l:List Int) (x:Int) (j q:Nat):∀ n,n<=l.length->spanTo r (l ++ [x]) j q n=spanTo r l j q n:=by
 intro n
 induction n with
 | zero=>intro _; rfl
 | succ n ih =>
  intro h
  rw [spanTo_succ,spanTo_succ,ih (by omega)]
  have e:(l ++ [x]).getD n 0=l.getD n 0:=by rw [Go.Ab.getD_append,if_pos (by omega)]
  unfold spanStep
  rw [e]
theorem spanOf_snoc (r:Run) (l:List Int) (x:Int) (j q:Nat):spanOf r (l ++ [x]) j q=if x=(j:Int) then seeOne (fnd r l.length) q (spanOf r l j q) else spanOf r l j q:=by
 unfold spanOf
 rw [List.length_append,List.length_singleton,spanTo_succ,spanTo_snoc r l x j q _ (Nat.le_refl _)]
 unfold spanStep
 rw [Go.Ab.getD_append,if_neg (Nat.lt_irrefl _),Nat.sub_self]
 show (if x=(j:Int) then _ else _)=_
 split
 ·unfold seeOne
  by_cases h0:(fnd r l.length).new.getD q 0=0
  ·rw [if_pos h0,if_neg (by rw [h0]; decide),if_pos h0]
  ·rw [if_neg h0]
   split
   ·rfl
   ·rfl
 ·rfl
theorem seeOne_narrow (c:Fnd) (q:Nat) (s:Span):s.lo<=(seeOne c q s).lo/\(seeOne c q s).hi<=s.hi:=by
 unfold seeOne
 split
 ·exact ⟨Int.le_max_left _ _,Int.le_refl _⟩
 ·split
  ·exact ⟨Int.le_refl _,Int.min_le_left _ _⟩
  ·exact ⟨Int.le_refl _,Int.le_refl _⟩
theorem canBe_iff {r:Run} (ok:Ok r) {l:List Int}:canBe r l=true ↔ ∀ m,m < r.machines.length -> ∀ p:Nat,(p:Int) < r.plates->(spanOf r l m p).lo<=(spanOf r l m p).hi:=by
 unfold canBe canBeM canBeAt
 simp only [List.all_eq_true,List.mem_range,decide_eq_true_eq]
 have:=ok.plates
 constructor
 ·intro h m hm p hp; exact h m hm p (by omega)
 ·intro h m hm p hp; exact h m hm p (by omega)
theorem canBe_snoc {r:Run} (ok:Ok r) {l:List Int} {x:Int} (h:canBe r (l ++ [x])=true):canBe r l=true:=by
 rw [canBe_iff ok] at h ⊢
 intro m hm p hp
 have h1:=h m hm p hp
 rw [spanOf_snoc] at h1
 split at h1
 ·have:=seeOne_narrow (fnd r l.length) p (spanOf r l m p); omega
 ·exact h1
theorem seeN_spec (c:Fnd) (m:Nat):∀ k p (f:Nat->Nat->Span),((seeN c m k p f).1=true ↔ ∀ q,p<=q->q < p + k->(seeOne c q (f m q)).lo<=(seeOne c q (f m q)).hi) ∧
  ((seeN c m k p f).1=true -> ∀ j q,(seeN c m k p f).2 j q=if j=m/\p<=q/\q < p + k then seeOne c q (f j q) else f j q):=by
 intro k
 induction k with
 | zero =>
  intro p f
  refine ⟨⟨fun _ q h1 h2=>by omega,fun _=>rfl⟩,fun _ j q => ?_⟩
  rw [if_neg (by omega)]; rfl
 | succ k ih =>
  intro p f
  by_cases hs:(seeOne c p (f m p)).lo > (seeOne c p (f m p)).hi
  ·rw [seeN_stop hs]
   refine ⟨⟨fun h=>(by cases h),fun h => ?_⟩,fun h=>(by cases h)⟩
   have:=h p (Nat.le_refl _) (by omega)
   omega
  ·rw [seeN_go hs]
   obtain ⟨h1,h2⟩:=ih (p + 1) (upd2 f m p (seeOne c p (f m p)))
   have hq:∀ q,p + 1<=q->upd2 f m p (seeOne c p (f m p)) m q=f m q:=by
    intro q hq
    unfold upd2
    rw [if_pos rfl,if_neg (by omega)]
   refine ⟨⟨fun h q a b => ?_,fun h=>h1.2 fun q a b => ?_⟩,fun h j q => ?_⟩
   ·by_cases e:q=p
    ·subst e; omega
    ·have:=h1.1 h q (by omega) (by omega)
     rw [hq q (by omega)] at this
     exact this
   ·rw [hq q a]
    exact h q (by omega) (by omega)
   ·rw [h2 h j q]
    by_cases hj:j=m
    ·subst hj
     by_cases e:q=p
     ·subst e
      rw [if_neg (by omega),if_pos ⟨rfl,by omega,by omega⟩,upd2_at]
     ·by_cases hr:p + 1<=q/\q < p + 1 + k
      ·rw [if_pos ⟨rfl,hr⟩,if_pos ⟨rfl,by omega,by omega⟩,hq q hr.1]
      ·rw [if_neg (fun h=>hr h.2),if_neg (by omega)]
       unfold upd2
       rw [if_pos rfl,if_neg e]
    ·rw [if_neg (fun h=>hj h.1),if_neg (fun h=>hj h.1)]
     unfold upd2
     rw [if_neg hj]
theorem filter_flatMap {α β:Type} (L:List α) (g:α->List β) (P:α->Bool) (Q:β->Bool) (h:∀ l,l ∈ L->P l=false -> ∀ x,x ∈ g l->Q x=false):(L.flatMap g).filter Q=(L.filter P).flatMap fun l=>(g l).filter Q:=by
 induction L with
 | nil=>rfl
 | cons a L ih =>
  rw [List.flatMap_cons,List.filter_append,ih (fun l hl=>h l (List.mem_cons_of_mem _ hl))]
  cases hp:P a with
  | true=>rw [List.filter_cons_of_pos hp,List.flatMap_cons]
  | false =>
   rw [List.filter_cons_of_neg (by rw [hp]; exact Bool.false_ne_true)]
   have:(g a).filter Q = []:=by
    rw [List.filter_eq_nil_iff]
    intro x hx
    rw [h a (List.mem_cons_self ..) hp x hx]; exact Bool.false_ne_true
   rw [this]; rfl
def WayOK (r:Run) (w:WayS):Prop:=canBe r w.frm=true /\ ∀ m,m < r.machines.length -> ∀ p:Nat,(p:Int) < r.plates->w.whn m p=spanOf r w.frm m p
theorem one_ok {r:Run} (ok:Ok r) {n:Nat} (hn:n < r.found.length) {w:WayS} (hw:WayOK r w) (hl:w.frm.length=n) {x:Int} (hx:0<=x/\x < r.machines.length) :
  (see (fnd r n) x.toNat w.whn).1=canBe r (w.frm ++ [x])/\((see (fnd r n) x.toNat w.whn).1=true->WayOK r ⟨w.frm ++ [x],(see (fnd r n) x.toNat w.whn).2⟩):=by
 obtain ⟨h1,h2⟩:=seeN_spec (fnd r n) x.toNat (fnd r n).new.length 0 w.whn
 have hf:=ok.fnd n hn
 have hp:=ok.plates
 have key:∀ j,j < r.machines.length -> ∀ q:Nat,(q:Int) < r.plates->spanOf r (w.frm ++ [x]) j q=if j=x.toNat then seeOne (fnd r n) q (w.whn j q) else w.whn j q:=by
  intro j hj q hq
  rw [spanOf_snoc,hl,hw.2 j hj q hq]
  by_cases e:j=x.toNat
  ·rw [if_pos e,if_pos (by omega)]
  ·rw [if_neg e,if_neg (by omega)]
 have hc:=(canBe_iff ok).1 hw.1
 have hiff:(see (fnd r n) x.toNat w.whn).1=true ↔ canBe r (w.frm ++ [x])=true:=by
  unfold see
  rw [h1,canBe_iff ok]
  constructor
  ·intro h m hm p hpp
   rw [key m hm p hpp]
   split
   ·rename_i e
    subst e
    exact h p (Nat.zero_le _) (by omega)
   ·rw [hw.2 m hm p hpp]; exact hc m hm p hpp
  ·intro h q _ hq
   have:=h x.toNat (by omega) q (by omega)
   rw [key _ (by omega) q (by omega),if_pos rfl] at this
   exact this
 refine ⟨?_,fun h=>⟨hiff.1 h,fun m hm p hpp => ?_⟩⟩
 ·cases e:canBe r (w.frm ++ [x]) with
  | true=>exact hiff.2 e
  | false =>
   cases e2:(see (fnd r n) x.toNat w.whn).1 with
   | true=>rw [hiff.1 e2] at e; cases e
   | false=>rfl
 ·show (see (fnd r n) x.toNat w.whn).2 m p=spanOf r (w.frm ++ [x]) m p
  rw [key m hm p hpp]
  unfold see at h ⊢
  rw [h2 h m p]
  by_cases e:m=x.toNat
  ·rw [if_pos ⟨e,Nat.zero_le _,by omega⟩,if_pos e]
  ·rw [if_neg (fun hh=>e hh.1),if_neg e]
theorem step_frm {r:Run} (ok:Ok r) {n:Nat} (hn:n < r.found.length) {w:WayS} (hw:WayOK r w) (hl:w.frm.length=n) :
  (step r n w).map (·.frm)=((fnd r n).frm.map fun m=>w.frm ++ [m]).filter (canBe r) /\ ∀ v,v ∈ step r n w->WayOK r v:=by
 have:∀ L:List Int,(∀ x,x ∈ L->0<=x/\x < r.machines.length)->(L.filterMap (one r n w)).map (·.frm)=(L.map fun m=>w.frm ++ [m]).filter (canBe r) /\ ∀ v,v ∈ L.filterMap (one r n w)->WayOK r v:=by
  intro L
  induction L with
  | nil=>intro _; exact ⟨rfl,fun v h=>by cases h⟩
  | cons x L ih =>
   intro hL
   obtain ⟨h1,h2⟩:=one_ok ok hn hw hl (hL x (List.mem_cons_self ..))
   obtain ⟨i1,i2⟩:=ih fun y hy=>hL y (List.mem_cons_of_mem _ hy)
   cases e:canBe r (w.frm ++ [x]) with
   | true =>
    rw [e] at h1
    have ho:one r n w x=some ⟨w.frm ++ [x],(see (fnd r n) x.toNat w.whn).2⟩:=by rw [one,if_pos h1]
    rw [List.filterMap_cons_some ho,List.map_cons (f:=fun m=>w.frm ++ [m]),List.filter_cons_of_pos e]
    refine ⟨by simp only [List.map_cons,i1],fun v hv => ?_⟩
    rcases List.mem_cons.1 hv with rfl | hv
    ·exact h2 h1
    ·exact i2 v hv
   | false =>
    rw [e] at h1
    have ho:one r n w x=none:=by rw [one,h1]; rfl
    rw [List.filterMap_cons_none ho,List.map_cons,List.filter_cons_of_neg (by rw [e]; exact Bool.false_ne_true)]
    exact ⟨i1,i2⟩
 exact this _ fun x hx=>frm_range ok hn hx
theorem waysTo_link {r:Run} (ok:Ok r):∀ n,n<=r.found.length->(waysTo r n).map (·.frm)=(chFrom r [] n).filter (canBe r) /\ ∀ w,w ∈ waysTo r n->WayOK r w:=by
 intro n
 induction n with
 | zero =>
  intro _
  have hs:∀ m,m < r.machines.length -> ∀ p:Nat,(p:Int) < r.plates->firstWhn r r.machines.length m p=spanOf r [] m p:=by
   intro m hm p hp
   have:=(ok.mach m hm).1
   unfold firstWhn
   rw [if_pos hm,if_pos (by omega)]; rfl
  have hc:canBe r []=true:=by
   rw [canBe_iff ok]
   intro m hm p hp
   have h1:=(ok.mach m hm).1
   have h2:=ok.span m hm p (by omega)
   show (chg (mach r m) p).lo<=(chg (mach r m) p).hi
   omega
  refine ⟨?_,fun w hw => ?_⟩
  ·show [([]:List Int)]=List.filter (canBe r) [[]]
   rw [List.filter_cons_of_pos hc]; rfl
  ·have:w=⟨[],firstWhn r r.machines.length⟩:=by simpa [waysTo] using hw
   subst this
   exact ⟨hc,hs⟩
 | succ n ih =>
  intro hn
  obtain ⟨h1,h2⟩:=ih (by omega)
  have hst:=fun w hw=>step_frm ok (n:=n) (by omega) (h2 w hw) (waysTo_frm n w hw)
  refine ⟨?_,fun v hv => ?_⟩
  ·rw [waysTo,chFrom,List.map_flatMap,filter_flatMap _ _ (canBe r) (canBe r) (fun l hl hf x hx => ?_),← h1,List.flatMap_map]
   ·have:∀ L:List WayS,(∀ w,w ∈ L->w ∈ waysTo r n)->L.flatMap (fun w=>(step r n w).map (·.frm))=L.flatMap fun w=>((fnd r w.frm.length).frm.map fun m=>w.frm ++ [m]).filter (canBe r):=by
     intro L
     induction L with
     | nil=>intro _; rfl
     | cons w L ihL =>
      intro hL
      rw [List.flatMap_cons,List.flatMap_cons,ihL (fun v hv=>hL v (List.mem_cons_of_mem _ hv)),(hst w (hL w (List.mem_cons_self ..))).1,waysTo_frm n w (hL w (List.mem_cons_self ..))]
    exact this _ fun w hw=>hw
   ·obtain ⟨m,_,rfl⟩:=List.mem_map.1 hx
    cases e:canBe r (l ++ [m]) with
    | false=>rfl
    | true=>rw [canBe_snoc ok e] at hf; cases hf
  ·rw [waysTo,List.mem_flatMap] at hv
   obtain ⟨w,hw,hv⟩:=hv
   exact (hst w hw).2 v hv
theorem ways_froms {r:Run} (ok:Ok r):(waysOf r).map (·.frm)=fromsOf r:=by
 rw [waysOf,(waysTo_link ok _ (Nat.le_refl _)).1,fromsOf,choices_from]
theorem way_ok {r:Run} (ok:Ok r) {w:WayS} (h:w ∈ waysOf r):WayOK r w:=(waysTo_link ok _ (Nat.le_refl _)).2 w h
theorem ways_len {r:Run} (ok:Ok r):(waysOf r).length=(fromsOf r).length:=by rw [← ways_froms ok,List.length_map]
theorem open_eq (r:Run) (is:Bool):openE r is=rfE r is:=by
 unfold openE rfE
 split
 ·rename_i h
  rw [ways_len (ok_of (check_zero.1 h))]
 ·rfl
end Go.Sh
namespace Go.Sh
theorem rf_zero {r:Run} {is:Bool} (h:rfE r is=0):Ok r/\is=true:=⟨ok_of (check_zero.1 (rfE_zero h).1),(rfE_zero h).2.1⟩
theorem cnt_all (l:List WayS) (P:WayS->Bool):cnt l P l.length=l.countP P:=by rw [cnt,List.take_length]
end Go.Sh
namespace Go.Sh
theorem far_small {r:Run} (h:far r=false) (hf:fits r):small r:=by
 simp only [far,huge,Bool.or_eq_false_iff,decide_eq_false_iff_not,List.any_eq_false] at h
 obtain ⟨⟨⟨⟨h1,h2⟩,h3⟩,h4⟩,_⟩:=h
 refine ⟨by omega,by omega,fun i => ?_,fun i => ?_⟩
 ·by_cases hi:i < r.machines.length
  ·have:=h3 _ (Go.Ab.getD_mem r.machines default hi)
   simp only [hugeM,decide_eq_true_eq] at this
   show (r.machines.getD i default).changes.length<=_
   omega
  ·rw [mach,Go.Ab.getD_ge _ _ (by omega)]; exact Nat.zero_le _
 ·by_cases hi:i < r.found.length
  ·have:=h4 _ (Go.Ab.getD_mem r.found default hi)
   simp only [hugeF,Bool.or_eq_true,decide_eq_true_eq,not_or] at this
   show (r.found.getD i default).new.length<=_/\(r.found.getD i default).frm.length<=_
   omega
  ·rw [fnd,Go.Ab.getD_ge _ _ (by omega)]; exact ⟨Nat.zero_le _,Nat.zero_le _⟩
end Go.Sh
namespace Go.Ab
open Go Go.RowKit Go.Proofs Go.Sh Go.En
def s33 (r:Run):CallSpec:={ args:=[vRun r,vRun r],res:=bv true,pre:=fits r }
def h33a (r:Run):Hint:={ X:=Nat,M:=fun i=>[(5,iv i)],I:=fun i=>i<=r.machines.length,mu:=fun i=>r.machines.length - i,x0:=(0:Nat),nx:=fun i=>i + 1 }
def h33b (r:Run) (x:Nat):Hint:={ X:=Nat,M:=fun i=>[(8,iv i)],I:=fun i=>i<=(mach r x).changes.length,mu:=fun i=>(mach r x).changes.length - i,x0:=(0:Nat),nx:=fun i=>i + 1 }
def h33c (r:Run):Hint:={ X:=Nat,M:=fun i=>[(9,iv i)],I:=fun i=>i<=r.found.length,mu:=fun i=>r.found.length - i,x0:=(0:Nat),nx:=fun i=>i + 1 }
end Go.Ab
namespace Go.Ab
open Go Go.RowKit Go.Proofs Go.Sh Go.En
abbrev z33_1 (r:Run) (x42:Nat):LoopAnn:=Hint.ann (h33b r x42) [(2,AV.ptr 0 []),(3,AV.ptr 8 []),(5,iv (x42:Int)),(6,AV.ptr 10392 []),(7,AV.ptr 10400 [])] [(0,OB.cells 25 (cRun r)),(8,OB.cells 25 (cRun r)),(10392,OB.cells 42 (cMach (mach r x42))),(10400,OB.cells 42 (cMach (mach r x42)))] 20544
abbrev z33_2 (r:Run):LoopAnn:=Hint.ann (h33a r) [(2,AV.ptr 0 []),(3,AV.ptr 8 [])] [(0,OB.cells 25 (cRun r)),(8,OB.cells 25 (cRun r))] 10272
abbrev z33_3 (r:Run):LoopAnn:=Hint.ann (h33c r) [(2,AV.ptr 0 []),(3,AV.ptr 8 [])] [(0,OB.cells 25 (cRun r)),(8,OB.cells 25 (cRun r))] 20320
abbrev q33_1 (r:Run) (C:Prop):Prop:=fits r->(bif bif bif !decide (r.plates=r.plates) then true else !decide (r.last=r.last) then true else !decide ((↑(r.machines.length):Int)=(↑(r.machines.length):Int)) then true else !decide ((↑(r.found.length):Int)=(↑(r.found.length):Int)))=false->C
abbrev q33_2 (r:Run) (C:Nat->Prop):Prop:=q33_1 r (∀ (x42:Nat),x42<=r.machines.length->decide ((x42:Int) < (↑(r.machines.length):Int))=true->C x42)
abbrev q33_3 (r:Run) (C:Nat->Prop):Prop:=q33_2 r fun x42=>(bif !decide ((mach r x42).rate=(mach r x42).rate) then true else !decide ((↑((mach r x42).changes.length):Int)=(↑((mach r x42).changes.length):Int)))=false->C x42
abbrev q33_4 (r:Run) (C:Nat->Nat->Prop):Prop:=q33_3 r fun x42 => ∀ (x60:Nat),x60<=(mach r x42).changes.length->decide ((x60:Int) < (↑((mach r x42).changes.length):Int))=true->C x42 x60
abbrev q33_5 (r:Run) (C:Nat->Nat->Prop):Prop:=q33_4 r fun x42 x60=>(!(decide (((mach r x42).changes.getD x60 default).lo=((mach r x42).changes.getD x60 default).lo) && (decide (((mach r x42).changes.getD x60 default).hi=((mach r x42).changes.getD x60 default).hi) && true)))=false->C x42 x60
abbrev q33_6 (r:Run) (C:Nat->Nat->Prop):Prop:=q33_3 r fun x42 => ∀ (x60:Nat),x60<=(mach r x42).changes.length->decide ((x60:Int) < (↑((mach r x42).changes.length):Int))=false->C x42 x60
abbrev q33_7 (r:Run) (C:Nat->Prop):Prop:=q33_1 r (∀ (x42:Nat),x42<=r.machines.length->decide ((x42:Int) < (↑(r.machines.length):Int))=false->C x42)
abbrev q33_8 (r:Run) (C:Nat->Nat->Prop):Prop:=q33_7 r fun x42 => ∀ (x63:Nat),x63<=r.found.length->decide ((x63:Int) < (↑(r.found.length):Int))=true->C x42 x63
abbrev q33_9 (r:Run) (C:Nat->Nat->Prop):Prop:=q33_8 r fun x42 x63=>(bif bif !decide ((fnd r x63).minute=(fnd r x63).minute) then true else !sameInts (fnd r x63).new (fnd r x63).new then true else !sameInts (fnd r x63).frm (fnd r x63).frm)=false->C x42 x63
theorem w33 (r:Run)
 (o0:fits r->(!decide (r.plates=r.plates))=false->(!!decide (r.plates=r.plates))=true)
 (o1:fits r->(bif !decide (r.plates=r.plates) then true else !decide (r.last=r.last))=false->(!bif !decide (r.plates=r.plates) then true else !decide (r.last=r.last))=true)
 (o2:fits r->(bif bif !decide (r.plates=r.plates) then true else !decide (r.last=r.last) then true else !decide ((↑(r.machines.length):Int)=(↑(r.machines.length):Int)))=false->(!bif bif !decide (r.plates=r.plates) then true else !decide (r.last=r.last) then true else !decide ((↑(r.machines.length):Int)=(↑(r.machines.length):Int)))=true)
 (o3:fits r->(bif bif bif !decide (r.plates=r.plates) then true else !decide (r.last=r.last) then true else !decide ((↑(r.machines.length):Int)=(↑(r.machines.length):Int)) then true else !decide ((↑(r.found.length):Int)=(↑(r.found.length):Int)))=true->false=true)
 (o4:q33_1 r (0=(↑0:Int)))
 (o5:q33_1 r (0<=r.machines.length))
 (o6:q33_2 r fun x42=>0<=(x42:Int))
 (o7:q33_2 r fun x42=>(x42:Int) < (↑(r.machines.length):Int))
 (o8:q33_2 r fun x42=>0<=(x42:Int))
 (o9:q33_2 r fun x42=>(x42:Int) < (↑(r.machines.length):Int))
 (o10:q33_2 r fun x42=>(!decide ((mach r x42).rate=(mach r x42).rate))=false->(!!decide ((mach r x42).rate=(mach r x42).rate))=true)
 (o11:q33_2 r fun x42=>(bif !decide ((mach r x42).rate=(mach r x42).rate) then true else !decide ((↑((mach r x42).changes.length):Int)=(↑((mach r x42).changes.length):Int)))=true->false=true)
 (o12:q33_3 r fun x42=>0=(↑0:Int))
 (o13:q33_3 r fun x42=>0<=(mach r x42).changes.length)
 (o14:q33_4 r fun x42 x60=>0<=(x60:Int))
 (o15:q33_4 r fun x42 x60=>(x60:Int) < (↑((mach r x42).changes.length):Int))
 (o16:q33_4 r fun x42 x60=>0<=(x60:Int))
 (o17:q33_4 r fun x42 x60=>(x60:Int) < (↑((mach r x42).changes.length):Int))
 (o18:q33_4 r fun x42 x60=>(!(decide (((mach r x42).changes.getD x60 default).lo=((mach r x42).changes.getD x60 default).lo) && (decide (((mach r x42).changes.getD x60 default).hi=((mach r x42).changes.getD x60 default).hi) && true)))=true->false=true)
 (o19:q33_5 r fun x42 x60=>inI ((x60:Int) + 1))
 (o20:q33_5 r fun x42 x60=>(x60:Int) + 1=(↑(x60 + 1):Int))
 (o21:q33_5 r fun x42 x60=>x60 + 1<=(mach r x42).changes.length)
 (o22:q33_5 r fun x42 x60=>(mach r x42).changes.length - (x60 + 1) < (mach r x42).changes.length - x60)
 (o23:q33_6 r fun x42 x60=>inI ((x42:Int) + 1))
 (o24:q33_6 r fun x42 x60=>(x42:Int) + 1=(↑(x42 + 1):Int))
 (o25:q33_6 r fun x42 x60=>x42 + 1<=r.machines.length)
 (o26:q33_6 r fun x42 x60=>r.machines.length - (x42 + 1) < r.machines.length - x42)
 (o27:q33_7 r fun x42=>0=(↑0:Int))
 (o28:q33_7 r fun x42=>0<=r.found.length)
 (o29:q33_8 r fun x42 x63=>0<=(x63:Int))
 (o30:q33_8 r fun x42 x63=>(x63:Int) < (↑(r.found.length):Int))
 (o31:q33_8 r fun x42 x63=>0<=(x63:Int))
 (o32:q33_8 r fun x42 x63=>(x63:Int) < (↑(r.found.length):Int))
 (o33:q33_8 r fun x42 x63=>(!!decide ((fnd r x63).minute=(fnd r x63).minute))->(fnd r x63).new.length<=1125899906842624)
 (o34:q33_8 r fun x42 x63=>(!decide ((fnd r x63).minute=(fnd r x63).minute))=false->(!!decide ((fnd r x63).minute=(fnd r x63).minute))=true)
 (o35:q33_8 r fun x42 x63=>(!bif !decide ((fnd r x63).minute=(fnd r x63).minute) then true else !sameInts (fnd r x63).new (fnd r x63).new)=true->(fnd r x63).frm.length<=1125899906842624)
 (o36:q33_8 r fun x42 x63=>(bif !decide ((fnd r x63).minute=(fnd r x63).minute) then true else !sameInts (fnd r x63).new (fnd r x63).new)=false->(!bif !decide ((fnd r x63).minute=(fnd r x63).minute) then true else !sameInts (fnd r x63).new (fnd r x63).new)=true)
 (o37:q33_8 r fun x42 x63=>(bif bif !decide ((fnd r x63).minute=(fnd r x63).minute) then true else !sameInts (fnd r x63).new (fnd r x63).new then true else !sameInts (fnd r x63).frm (fnd r x63).frm)=true->false=true)
 (o38:q33_9 r fun x42 x63=>inI ((x63:Int) + 1))
 (o39:q33_9 r fun x42 x63=>(x63:Int) + 1=(↑(x63 + 1):Int))
 (o40:q33_9 r fun x42 x63=>x63 + 1<=r.found.length)
 (o41:q33_9 r fun x42 x63=>r.found.length - (x63 + 1) < r.found.length - x63) :
  Triple Try.prog 33 (s33 r):=by
 refine triple_of Try.func33 rfl Try.call33 T0_ok _ rfl rfl rfl rfl (Nat.le_of_ble_eq_true (by kernel_rfl)) (fun _ _ _ _ h=>h) ?_
 intro hp C hC _ hE
 obtain ⟨P,w0,E0,av,hA⟩:=C
 subst hC
 refine swp_seq ?_
 refine sQ (kt:=[2,3]) (kh:=[0,8]) (q:=tn 3) (st':=ASt.mk [(2,.ptr 0 []),(3,.ptr 8 [])] [(0,.cells 25 (cRun r)),(8,.cells 25 (cRun r))] 24) (tp 3) ?_
 refine swp_seq (swp_seq ?_)
 refine sQ (kt:=[2,3,41]) (kh:=[0,8]) (q:=True/\True/\True/\True/\True/\True/\((!!decide (r.plates=r.plates))->(True/\True)/\True)/\((!!decide (r.plates=r.plates))->(((!!decide (r.plates=r.plates))->(!!decide (r.plates=r.plates))=true)/\True)/\True)/\((!!decide (r.plates=r.plates))->(True/\True)/\True)/\((!!decide (r.plates=r.plates))->(((!!decide (r.plates=r.plates))->(!!decide (r.plates=r.plates))=true)/\True)/\True)/\((!!decide (r.plates=r.plates))->(((!!decide (r.plates=r.plates))->(!!decide (r.plates=r.plates))=true)/\((!!decide (r.plates=r.plates))->(!!decide (r.plates=r.plates))=true)/\True)/\True)/\(((!decide (r.plates=r.plates))->True)/\((!decide (r.plates=r.plates))=false->(!!decide (r.plates=r.plates))=true))/\True/\((!bif !decide (r.plates=r.plates) then true else !decide (r.last=r.last))=true->(True/\True)/\True)/\((!bif !decide (r.plates=r.plates) then true else !decide (r.last=r.last))=true->(((!bif !decide (r.plates=r.plates) then true else !decide (r.last=r.last))=true->(!bif !decide (r.plates=r.plates) then true else !decide (r.last=r.last))=true)/\True)/\True)/\((!bif !decide (r.plates=r.plates) then true else !decide (r.last=r.last))=true->(((!bif !decide (r.plates=r.plates) then true else !decide (r.last=r.last))=true->(!bif !decide (r.plates=r.plates) then true else !decide (r.last=r.last))=true)/\True)/\True)/\((!bif !decide (r.plates=r.plates) then true else !decide (r.last=r.last))=true->(True/\True)/\True)/\((!bif !decide (r.plates=r.plates) then true else !decide (r.last=r.last))=true->(((!bif !decide (r.plates=r.plates) then true else !decide (r.last=r.last))=true->(!bif !decide (r.plates=r.plates) then true else !decide (r.last=r.last))=true)/\True)/\True)/\((!bif !decide (r.plates=r.plates) then true else !decide (r.last=r.last))=true->(((!bif !decide (r.plates=r.plates) then true else !decide (r.last=r.last))=true->(!bif !decide (r.plates=r.plates) then true else !decide (r.last=r.last))=true)/\True)/\True)/\((!bif !decide (r.plates=r.plates) then true else !decide (r.last=r.last))=true->(((!bif !decide (r.plates=r.plates) then true else !decide (r.last=r.last))=true->(!bif !decide (r.plates=r.plates) then true else !decide (r.last=r.last))=true)/\((!bif !decide (r.plates=r.plates) then true else !decide (r.last=r.last))=true->(!bif !decide (r.plates=r.plates) then true else !decide (r.last=r.last))=true)/\True)/\True)/\(((bif !decide (r.plates=r.plates) then true else !decide (r.last=r.last))=true->True)/\((bif !decide (r.plates=r.plates) then true else !decide (r.last=r.last))=false->(!bif !decide (r.plates=r.plates) then true else !decide (r.last=r.last))=true))/\True/\((!bif bif !decide (r.plates=r.plates) then true else !decide (r.last=r.last) then true else !decide ((↑(r.machines.length):Int)=(↑(r.machines.length):Int)))=true->(True/\True)/\True)/\((!bif bif !decide (r.plates=r.plates) then true else !decide (r.last=r.last) then true else !decide ((↑(r.machines.length):Int)=(↑(r.machines.length):Int)))=true->(((!bif bif !decide (r.plates=r.plates) then true else !decide (r.last=r.last) then true else !decide ((↑(r.machines.length):Int)=(↑(r.machines.length):Int)))=true->(!bif bif !decide (r.plates=r.plates) then true else !decide (r.last=r.last) then true else !decide ((↑(r.machines.length):Int)=(↑(r.machines.length):Int)))=true)/\True)/\True)/\((!bif bif !decide (r.plates=r.plates) then true else !decide (r.last=r.last) then true else !decide ((↑(r.machines.length):Int)=(↑(r.machines.length):Int)))=true->(((!bif bif !decide (r.plates=r.plates) then true else !decide (r.last=r.last) then true else !decide ((↑(r.machines.length):Int)=(↑(r.machines.length):Int)))=true->(!bif bif !decide (r.plates=r.plates) then true else !decide (r.last=r.last) then true else !decide ((↑(r.machines.length):Int)=(↑(r.machines.length):Int)))=true)/\True)/\True)/\((!bif bif !decide (r.plates=r.plates) then true else !decide (r.last=r.last) then true else !decide ((↑(r.machines.length):Int)=(↑(r.machines.length):Int)))=true->(True/\True)/\True)/\((!bif bif !decide (r.plates=r.plates) then true else !decide (r.last=r.last) then true else !decide ((↑(r.machines.length):Int)=(↑(r.machines.length):Int)))=true->(((!bif bif !decide (r.plates=r.plates) then true else !decide (r.last=r.last) then true else !decide ((↑(r.machines.length):Int)=(↑(r.machines.length):Int)))=true->(!bif bif !decide (r.plates=r.plates) then true else !decide (r.last=r.last) then true else !decide ((↑(r.machines.length):Int)=(↑(r.machines.length):Int)))=true)/\True)/\True)/\((!bif bif !decide (r.plates=r.plates) then true else !decide (r.last=r.last) then true else !decide ((↑(r.machines.length):Int)=(↑(r.machines.length):Int)))=true->(((!bif bif !decide (r.plates=r.plates) then true else !decide (r.last=r.last) then true else !decide ((↑(r.machines.length):Int)=(↑(r.machines.length):Int)))=true->(!bif bif !decide (r.plates=r.plates) then true else !decide (r.last=r.last) then true else !decide ((↑(r.machines.length):Int)=(↑(r.machines.length):Int)))=true)/\True)/\True)/\((!bif bif !decide (r.plates=r.plates) then true else !decide (r.last=r.last) then true else !decide ((↑(r.machines.length):Int)=(↑(r.machines.length):Int)))=true->(((!bif bif !decide (r.plates=r.plates) then true else !decide (r.last=r.last) then true else !decide ((↑(r.machines.length):Int)=(↑(r.machines.length):Int)))=true->(!bif bif !decide (r.plates=r.plates) then true else !decide (r.last=r.last) then true else !decide ((↑(r.machines.length):Int)=(↑(r.machines.length):Int)))=true)/\((!bif bif !decide (r.plates=r.plates) then true else !decide (r.last=r.last) then true else !decide ((↑(r.machines.length):Int)=(↑(r.machines.length):Int)))=true->(!bif bif !decide (r.plates=r.plates) then true else !decide (r.last=r.last) then true else !decide ((↑(r.machines.length):Int)=(↑(r.machines.length):Int)))=true)/\True)/\True)/\(((bif bif !decide (r.plates=r.plates) then true else !decide (r.last=r.last) then true else !decide ((↑(r.machines.length):Int)=(↑(r.machines.length):Int)))=true->True)/\((bif bif !decide (r.plates=r.plates) then true else !decide (r.last=r.last) then true else !decide ((↑(r.machines.length):Int)=(↑(r.machines.length):Int)))=false->(!bif bif !decide (r.plates=r.plates) then true else !decide (r.last=r.last) then true else !decide ((↑(r.machines.length):Int)=(↑(r.machines.length):Int)))=true))/\True) (st':=ASt.mk [(2,.ptr 0 []),(3,.ptr 8 []),(41,bv (bif bif bif !decide (r.plates=r.plates) then true else !decide (r.last=r.last) then true else !decide ((↑(r.machines.length):Int)=(↑(r.machines.length):Int)) then true else !decide ((↑(r.found.length):Int)=(↑(r.found.length):Int))))] [(0,.cells 25 (cRun r)),(8,.cells 25 (cRun r))] 264) ⟨tv,tv,tv,tv,tv,tv,(fun h0=>⟨⟨tv,tv⟩,tv⟩),(fun h1=>⟨⟨(fun h2=>h1),tv⟩,tv⟩),(fun h3=>⟨⟨tv,tv⟩,tv⟩),(fun h4=>⟨⟨(fun h5=>h4),tv⟩,tv⟩),(fun h6=>⟨⟨(fun h7=>h6),(fun h8=>h6),tv⟩,tv⟩),⟨(fun h9=>tv),(fun h10=>(o0 hp h10))⟩,tv,(fun h11=>⟨⟨tv,tv⟩,tv⟩),(fun h12=>⟨⟨(fun h13=>h12),tv⟩,tv⟩),(fun h14=>⟨⟨(fun h15=>h14),tv⟩,tv⟩),(fun h16=>⟨⟨tv,tv⟩,tv⟩),(fun h17=>⟨⟨(fun h18=>h17),tv⟩,tv⟩),(fun h19=>⟨⟨(fun h20=>h19),tv⟩,tv⟩),(fun h21=>⟨⟨(fun h22=>h21),(fun h23=>h21),tv⟩,tv⟩),⟨(fun h24=>tv),(fun h25=>(o1 hp h25))⟩,tv,(fun h26=>⟨⟨tv,tv⟩,tv⟩),(fun h27=>⟨⟨(fun h28=>h27),tv⟩,tv⟩),(fun h29=>⟨⟨(fun h30=>h29),tv⟩,tv⟩),(fun h31=>⟨⟨tv,tv⟩,tv⟩),(fun h32=>⟨⟨(fun h33=>h32),tv⟩,tv⟩),(fun h34=>⟨⟨(fun h35=>h34),tv⟩,tv⟩),(fun h36=>⟨⟨(fun h37=>h36),(fun h38=>h36),tv⟩,tv⟩),⟨(fun h39=>tv),(fun h40=>(o2 hp h40))⟩,tv⟩ ?_
 refine swp_cond (bif bif bif !decide (r.plates=r.plates) then true else !decide (r.last=r.last) then true else !decide ((↑(r.machines.length):Int)=(↑(r.machines.length):Int)) then true else !decide ((↑(r.found.length):Int)=(↑(r.found.length):Int))) (by kernel_rfl) (fun h41 => ?_) (fun h41 => ?_)
 ·refine swp_seq ?_
  refine sQ (kt:=[4]) (kh:=[]) (q:=True/\True) (st':=ASt.mk [(4,bv false)] [] 272) ⟨tv,tv⟩ ?_
  refine swp_ret ?_
  exact rQ [] ((True/\True)/\(zN (bv false) (bv true))/\T3) ⟨⟨tv,tv⟩,⟨(congrArg bv (o3 hp h41)),rfl⟩,rfl,rfl,rfl⟩
 ·refine swp_skip (swp_seq (swp_seq ?_))
  refine sQ (kt:=[2,3,5]) (kh:=[0,8]) (q:=True/\True) (st':=ASt.mk [(2,.ptr 0 []),(3,.ptr 8 []),(5,iv 0)] [(0,.cells 25 (cRun r)),(8,.cells 25 (cRun r))] 272) ⟨tv,tv⟩ ?_
  refine swp_block ?_
  refine swp_loopA (z33_2 r) (eQ hE [] [(0,.same 0),(8,.same 8)] [] [0,8] (((zP 0)/\(zP 8)/\(zN (iv 0) (iv (↑0:Int)))/\True)/\((zT (OB.cells 25 (cRun r)))/\(zT (OB.cells 25 (cRun r)))/\True)/\T2) ⟨⟨⟨rfl,rfl⟩,⟨rfl,rfl⟩,⟨(congrArg iv (o4 hp h41)),rfl⟩,tv⟩,⟨⟨rfl,rfl⟩,⟨rfl,rfl⟩,tv⟩,rfl,rfl⟩) (o5 hp h41) (fun (x42:Nat) hx42 => ?_)
  refine swp_seq (swp_seq ?_)
  refine sQ (kt:=[2,3,5,46]) (kh:=[0,8]) (q:=tn 5) (st':=ASt.mk [(2,.ptr 0 []),(3,.ptr 8 []),(5,iv (x42:Int)),(46,bv (decide ((x42:Int) < (↑(r.machines.length):Int))))] [(0,.cells 25 (cRun r)),(8,.cells 25 (cRun r))] 10312) (tp 5) ?_
  refine swp_cond (decide ((x42:Int) < (↑(r.machines.length):Int))) (by kernel_rfl) (fun h43 => ?_) (fun h43 => ?_)
  ·refine swp_skip (swp_seq (swp_block (swp_seq ?_)))
   refine sQ (kt:=[2,3,5,6,7]) (kh:=[0,8,10392,10400]) (q:=True/\True/\True/\(0<=(x42:Int)/\(x42:Int) < (↑(r.machines.length):Int))/\True/\True/\True/\True/\(0<=(x42:Int)/\(x42:Int) < (↑(r.machines.length):Int))/\tn 5) (st':=ASt.mk [(2,.ptr 0 []),(3,.ptr 8 []),(5,iv (x42:Int)),(6,.ptr 10392 []),(7,.ptr 10400 [])] [(0,.cells 25 (cRun r)),(8,.cells 25 (cRun r)),(10392,.cells 42 (cMach (mach r x42))),(10400,.cells 42 (cMach (mach r x42)))] 10424) ⟨tv,tv,tv,⟨(o6 hp h41 x42 hx42 h43),(o7 hp h41 x42 hx42 h43)⟩,tv,tv,tv,tv,⟨(o8 hp h41 x42 hx42 h43),(o9 hp h41 x42 hx42 h43)⟩,tp 5⟩ ?_
   refine swp_seq (swp_seq ?_)
   refine sQ (kt:=[2,3,5,6,7,72]) (kh:=[0,8,10392,10400]) (q:=True/\True/\True/\True/\True/\True/\((!!decide ((mach r x42).rate=(mach r x42).rate))->(True/\True)/\True)/\((!!decide ((mach r x42).rate=(mach r x42).rate))->(((!!decide ((mach r x42).rate=(mach r x42).rate))->(!!decide ((mach r x42).rate=(mach r x42).rate))=true)/\True)/\True)/\((!!decide ((mach r x42).rate=(mach r x42).rate))->(((!!decide ((mach r x42).rate=(mach r x42).rate))->(!!decide ((mach r x42).rate=(mach r x42).rate))=true)/\True)/\True)/\((!!decide ((mach r x42).rate=(mach r x42).rate))->(True/\True)/\True)/\((!!decide ((mach r x42).rate=(mach r x42).rate))->(((!!decide ((mach r x42).rate=(mach r x42).rate))->(!!decide ((mach r x42).rate=(mach r x42).rate))=true)/\True)/\True)/\((!!decide ((mach r x42).rate=(mach r x42).rate))->(((!!decide ((mach r x42).rate=(mach r x42).rate))->(!!decide ((mach r x42).rate=(mach r x42).rate))=true)/\True)/\True)/\((!!decide ((mach r x42).rate=(mach r x42).rate))->(((!!decide ((mach r x42).rate=(mach r x42).rate))->(!!decide ((mach r x42).rate=(mach r x42).rate))=true)/\((!!decide ((mach r x42).rate=(mach r x42).rate))->(!!decide ((mach r x42).rate=(mach r x42).rate))=true)/\True)/\True)/\(((!decide ((mach r x42).rate=(mach r x42).rate))->True)/\((!decide ((mach r x42).rate=(mach r x42).rate))=false->(!!decide ((mach r x42).rate=(mach r x42).rate))=true))/\True) (st':=ASt.mk [(2,.ptr 0 []),(3,.ptr 8 []),(5,iv (x42:Int)),(6,.ptr 10392 []),(7,.ptr 10400 []),(72,bv (bif !decide ((mach r x42).rate=(mach r x42).rate) then true else !decide ((↑((mach r x42).changes.length):Int)=(↑((mach r x42).changes.length):Int))))] [(0,.cells 25 (cRun r)),(8,.cells 25 (cRun r)),(10392,.cells 42 (cMach (mach r x42))),(10400,.cells 42 (cMach (mach r x42)))] 10536) ⟨tv,tv,tv,tv,tv,tv,(fun h44=>⟨⟨tv,tv⟩,tv⟩),(fun h45=>⟨⟨(fun h46=>h45),tv⟩,tv⟩),(fun h47=>⟨⟨(fun h48=>h47),tv⟩,tv⟩),(fun h49=>⟨⟨tv,tv⟩,tv⟩),(fun h50=>⟨⟨(fun h51=>h50),tv⟩,tv⟩),(fun h52=>⟨⟨(fun h53=>h52),tv⟩,tv⟩),(fun h54=>⟨⟨(fun h55=>h54),(fun h56=>h54),tv⟩,tv⟩),⟨(fun h57=>tv),(fun h58=>(o10 hp h41 x42 hx42 h43 h58))⟩,tv⟩ ?_
   refine swp_cond (bif !decide ((mach r x42).rate=(mach r x42).rate) then true else !decide ((↑((mach r x42).changes.length):Int)=(↑((mach r x42).changes.length):Int))) (by kernel_rfl) (fun h59 => ?_) (fun h59 => ?_)
   ·refine swp_seq ?_
    refine sQ (kt:=[4]) (kh:=[]) (q:=True/\True) (st':=ASt.mk [(4,bv false)] [] 10544) ⟨tv,tv⟩ ?_
    refine swp_ret ?_
    exact rQ [] ((True/\True)/\(zN (bv false) (bv true))/\T3) ⟨⟨tv,tv⟩,⟨(congrArg bv (o11 hp h41 x42 hx42 h43 h59)),rfl⟩,rfl,rfl,rfl⟩
   ·refine swp_skip (swp_seq ?_)
    refine sQ (kt:=[2,3,5,6,7,8]) (kh:=[0,8,10392,10400]) (q:=True/\True) (st':=ASt.mk [(2,.ptr 0 []),(3,.ptr 8 []),(5,iv (x42:Int)),(6,.ptr 10392 []),(7,.ptr 10400 []),(8,iv 0)] [(0,.cells 25 (cRun r)),(8,.cells 25 (cRun r)),(10392,.cells 42 (cMach (mach r x42))),(10400,.cells 42 (cMach (mach r x42)))] 10544) ⟨tv,tv⟩ ?_
    refine swp_block ?_
    refine swp_loopA (z33_1 r x42) (eQ hE [] [(0,.same 0),(8,.same 8),(10392,.same 10392),(10400,.same 10400)] [5] [0,8,10392,10400] (((zP 0)/\(zP 8)/\(zT (iv (x42:Int)))/\(zP 10392)/\(zP 10400)/\(zN (iv 0) (iv (↑0:Int)))/\True)/\((zT (OB.cells 25 (cRun r)))/\(zT (OB.cells 25 (cRun r)))/\(zT (OB.cells 42 (cMach (mach r x42))))/\(zT (OB.cells 42 (cMach (mach r x42))))/\True)/\T2) ⟨⟨⟨rfl,rfl⟩,⟨rfl,rfl⟩,⟨rfl,rfl⟩,⟨rfl,rfl⟩,⟨rfl,rfl⟩,⟨(congrArg iv (o12 hp h41 x42 hx42 h43 h59)),rfl⟩,tv⟩,⟨⟨rfl,rfl⟩,⟨rfl,rfl⟩,⟨rfl,rfl⟩,⟨rfl,rfl⟩,tv⟩,rfl,rfl⟩) (o13 hp h41 x42 hx42 h43 h59) (fun (x60:Nat) hx60 => ?_)
    refine swp_seq (swp_seq ?_)
    refine sQ (kt:=[2,3,5,6,7,8,77]) (kh:=[0,8,10392,10400]) (q:=tn 5) (st':=ASt.mk [(2,.ptr 0 []),(3,.ptr 8 []),(5,iv (x42:Int)),(6,.ptr 10392 []),(7,.ptr 10400 []),(8,iv (x60:Int)),(77,bv (decide ((x60:Int) < (↑((mach r x42).changes.length):Int))))] [(0,.cells 25 (cRun r)),(8,.cells 25 (cRun r)),(10392,.cells 42 (cMach (mach r x42))),(10400,.cells 42 (cMach (mach r x42)))] 20584) (tp 5) ?_
    refine swp_cond (decide ((x60:Int) < (↑((mach r x42).changes.length):Int))) (by kernel_rfl) (fun h61 => ?_) (fun h61 => ?_)
    ·refine swp_skip (swp_seq (swp_block (swp_seq ?_)))
     refine sQ (kt:=[2,3,5,6,7,8,90]) (kh:=[0,8,10392,10400]) (q:=True/\True/\True/\(0<=(x60:Int)/\(x60:Int) < (↑((mach r x42).changes.length):Int))/\True/\True/\True/\True/\(0<=(x60:Int)/\(x60:Int) < (↑((mach r x42).changes.length):Int))/\tn 2) (st':=ASt.mk [(2,.ptr 0 []),(3,.ptr 8 []),(5,iv (x42:Int)),(6,.ptr 10392 []),(7,.ptr 10400 []),(8,iv (x60:Int)),(90,bv !(decide (((mach r x42).changes.getD x60 default).lo=((mach r x42).changes.getD x60 default).lo) && (decide (((mach r x42).changes.getD x60 default).hi=((mach r x42).changes.getD x60 default).hi) && true)))] [(0,.cells 25 (cRun r)),(8,.cells 25 (cRun r)),(10392,.cells 42 (cMach (mach r x42))),(10400,.cells 42 (cMach (mach r x42)))] 20672) ⟨tv,tv,tv,⟨(o14 hp h41 x42 hx42 h43 h59 x60 hx60 h61),(o15 hp h41 x42 hx42 h43 h59 x60 hx60 h61)⟩,tv,tv,tv,tv,⟨(o16 hp h41 x42 hx42 h43 h59 x60 hx60 h61),(o17 hp h41 x42 hx42 h43 h59 x60 hx60 h61)⟩,tp 2⟩ ?_
     refine swp_cond (!(decide (((mach r x42).changes.getD x60 default).lo=((mach r x42).changes.getD x60 default).lo) && (decide (((mach r x42).changes.getD x60 default).hi=((mach r x42).changes.getD x60 default).hi) && true))) (by kernel_rfl) (fun h62 => ?_) (fun h62 => ?_)
     ·refine swp_seq ?_
      refine sQ (kt:=[4]) (kh:=[]) (q:=True/\True) (st':=ASt.mk [(4,bv false)] [] 20680) ⟨tv,tv⟩ ?_
      refine swp_ret ?_
      exact rQ [] ((True/\True)/\(zN (bv false) (bv true))/\T3) ⟨⟨tv,tv⟩,⟨(congrArg bv (o18 hp h41 x42 hx42 h43 h59 x60 hx60 h61 h62)),rfl⟩,rfl,rfl,rfl⟩
     ·refine swp_skip ?_
      refine sQ (kt:=[2,3,5,6,7,8]) (kh:=[0,8,10392,10400]) (q:=True/\inI ((x60:Int) + 1)/\True/\True) (st':=ASt.mk [(2,.ptr 0 []),(3,.ptr 8 []),(5,iv (x42:Int)),(6,.ptr 10392 []),(7,.ptr 10400 []),(8,iv ((x60:Int) + 1))] [(0,.cells 25 (cRun r)),(8,.cells 25 (cRun r)),(10392,.cells 42 (cMach (mach r x42))),(10400,.cells 42 (cMach (mach r x42)))] 20696) ⟨tv,(o19 hp h41 x42 hx42 h43 h59 x60 hx60 h61 h62),tv,tv⟩ ?_
      exact loop_next (z33_1 r x42) x60 (eQ hE [] [(0,.same 0),(8,.same 8),(10392,.same 10392),(10400,.same 10400)] [5] [0,8,10392,10400] (((zP 0)/\(zP 8)/\(zT (iv (x42:Int)))/\(zP 10392)/\(zP 10400)/\(zN (iv ((x60:Int) + 1)) (iv (↑(x60 + 1):Int)))/\True)/\((zT (OB.cells 25 (cRun r)))/\(zT (OB.cells 25 (cRun r)))/\(zT (OB.cells 42 (cMach (mach r x42))))/\(zT (OB.cells 42 (cMach (mach r x42))))/\True)/\T2) ⟨⟨⟨rfl,rfl⟩,⟨rfl,rfl⟩,⟨rfl,rfl⟩,⟨rfl,rfl⟩,⟨rfl,rfl⟩,⟨(congrArg iv (o20 hp h41 x42 hx42 h43 h59 x60 hx60 h61 h62)),rfl⟩,tv⟩,⟨⟨rfl,rfl⟩,⟨rfl,rfl⟩,⟨rfl,rfl⟩,⟨rfl,rfl⟩,tv⟩,rfl,rfl⟩) (o21 hp h41 x42 hx42 h43 h59 x60 hx60 h61 h62) (o22 hp h41 x42 hx42 h43 h59 x60 hx60 h61 h62)
    ·refine swp_exit ?_
     refine sQ (kt:=[2,3,5]) (kh:=[0,8]) (q:=True/\inI ((x42:Int) + 1)/\True/\True) (st':=ASt.mk [(2,.ptr 0 []),(3,.ptr 8 []),(5,iv ((x42:Int) + 1))] [(0,.cells 25 (cRun r)),(8,.cells 25 (cRun r))] 20608) ⟨tv,(o23 hp h41 x42 hx42 h43 h59 x60 hx60 h61),tv,tv⟩ ?_
     exact loop_next (z33_2 r) x42 (eQ hE [] [(0,.same 0),(8,.same 8)] [] [0,8] (((zP 0)/\(zP 8)/\(zN (iv ((x42:Int) + 1)) (iv (↑(x42 + 1):Int)))/\True)/\((zT (OB.cells 25 (cRun r)))/\(zT (OB.cells 25 (cRun r)))/\True)/\T2) ⟨⟨⟨rfl,rfl⟩,⟨rfl,rfl⟩,⟨(congrArg iv (o24 hp h41 x42 hx42 h43 h59 x60 hx60 h61)),rfl⟩,tv⟩,⟨⟨rfl,rfl⟩,⟨rfl,rfl⟩,tv⟩,rfl,rfl⟩) (o25 hp h41 x42 hx42 h43 h59 x60 hx60 h61) (o26 hp h41 x42 hx42 h43 h59 x60 hx60 h61)
  ·refine swp_exit (swp_seq (swp_seq ?_))
   refine sQ (kt:=[2,3,9]) (kh:=[0,8]) (q:=True/\True) (st':=ASt.mk [(2,.ptr 0 []),(3,.ptr 8 []),(9,iv 0)] [(0,.cells 25 (cRun r)),(8,.cells 25 (cRun r))] 10320) ⟨tv,tv⟩ ?_
   refine swp_block ?_
   refine swp_loopA (z33_3 r) (eQ hE [] [(0,.same 0),(8,.same 8)] [] [0,8] (((zP 0)/\(zP 8)/\(zN (iv 0) (iv (↑0:Int)))/\True)/\((zT (OB.cells 25 (cRun r)))/\(zT (OB.cells 25 (cRun r)))/\True)/\T2) ⟨⟨⟨rfl,rfl⟩,⟨rfl,rfl⟩,⟨(congrArg iv (o27 hp h41 x42 hx42 h43)),rfl⟩,tv⟩,⟨⟨rfl,rfl⟩,⟨rfl,rfl⟩,tv⟩,rfl,rfl⟩) (o28 hp h41 x42 hx42 h43) (fun (x63:Nat) hx63 => ?_)
   refine swp_seq (swp_seq ?_)
   refine sQ (kt:=[2,3,9,95]) (kh:=[0,8]) (q:=tn 5) (st':=ASt.mk [(2,.ptr 0 []),(3,.ptr 8 []),(9,iv (x63:Int)),(95,bv (decide ((x63:Int) < (↑(r.found.length):Int))))] [(0,.cells 25 (cRun r)),(8,.cells 25 (cRun r))] 20360) (tp 5) ?_
   refine swp_cond (decide ((x63:Int) < (↑(r.found.length):Int))) (by kernel_rfl) (fun h64 => ?_) (fun h64 => ?_)
   ·refine swp_skip (swp_seq (swp_block (swp_seq ?_)))
    refine sQ (kt:=[2,3,9,10,11]) (kh:=[0,8,20440,20448]) (q:=True/\True/\True/\(0<=(x63:Int)/\(x63:Int) < (↑(r.found.length):Int))/\True/\True/\True/\True/\(0<=(x63:Int)/\(x63:Int) < (↑(r.found.length):Int))/\tn 5) (st':=ASt.mk [(2,.ptr 0 []),(3,.ptr 8 []),(9,iv (x63:Int)),(10,.ptr 20440 []),(11,.ptr 20448 [])] [(0,.cells 25 (cRun r)),(8,.cells 25 (cRun r)),(20440,.cells 32 (cFnd (fnd r x63))),(20448,.cells 32 (cFnd (fnd r x63)))] 20472) ⟨tv,tv,tv,⟨(o29 hp h41 x42 hx42 h43 x63 hx63 h64),(o30 hp h41 x42 hx42 h43 x63 hx63 h64)⟩,tv,tv,tv,tv,⟨(o31 hp h41 x42 hx42 h43 x63 hx63 h64),(o32 hp h41 x42 hx42 h43 x63 hx63 h64)⟩,tp 5⟩ ?_
    refine swp_seq ?_
    refine sC (cs:=[(10,CallSpec.eq (s37 (fnd r x63).new (fnd r x63).new) [true,true]),(18,CallSpec.eq (s37 (fnd r x63).frm (fnd r x63).frm) [true,true])]) (kt:=[2,3,9,128]) (kh:=[0,8]) (q:=True/\True/\True/\True/\True/\True/\((!!decide ((fnd r x63).minute=(fnd r x63).minute))->(True/\True)/\True)/\((!!decide ((fnd r x63).minute=(fnd r x63).minute))->(((!!decide ((fnd r x63).minute=(fnd r x63).minute))->(!!decide ((fnd r x63).minute=(fnd r x63).minute))=true)/\True)/\True)/\((!!decide ((fnd r x63).minute=(fnd r x63).minute))->(True/\True)/\True)/\((!!decide ((fnd r x63).minute=(fnd r x63).minute))->(((!!decide ((fnd r x63).minute=(fnd r x63).minute))->(!!decide ((fnd r x63).minute=(fnd r x63).minute))=true)/\True)/\True)/\((!!decide ((fnd r x63).minute=(fnd r x63).minute))->(True/\((!!decide ((fnd r x63).minute=(fnd r x63).minute))->(!!decide ((fnd r x63).minute=(fnd r x63).minute))=true)/\((!!decide ((fnd r x63).minute=(fnd r x63).minute))->(!!decide ((fnd r x63).minute=(fnd r x63).minute))=true)/\True)/\(zE (aInts (fnd r x63).new)/\zE (aInts (fnd r x63).new)/\True)/\Triple Try.prog 37 (s37 (fnd r x63).new (fnd r x63).new)/\(fnd r x63).new.length<=1125899906842624/\True /\ ∀ (i74:Env),True)/\((!!decide ((fnd r x63).minute=(fnd r x63).minute))->(((!!decide ((fnd r x63).minute=(fnd r x63).minute))->(!!decide ((fnd r x63).minute=(fnd r x63).minute))=true)/\True)/\True)/\(((!decide ((fnd r x63).minute=(fnd r x63).minute))->True)/\((!decide ((fnd r x63).minute=(fnd r x63).minute))=false->(!!decide ((fnd r x63).minute=(fnd r x63).minute))=true))/\True/\((!bif !decide ((fnd r x63).minute=(fnd r x63).minute) then true else !sameInts (fnd r x63).new (fnd r x63).new)=true->(True/\True)/\True)/\((!bif !decide ((fnd r x63).minute=(fnd r x63).minute) then true else !sameInts (fnd r x63).new (fnd r x63).new)=true->(((!bif !decide ((fnd r x63).minute=(fnd r x63).minute) then true else !sameInts (fnd r x63).new (fnd r x63).new)=true->(!bif !decide ((fnd r x63).minute=(fnd r x63).minute) then true else !sameInts (fnd r x63).new (fnd r x63).new)=true)/\True)/\True)/\((!bif !decide ((fnd r x63).minute=(fnd r x63).minute) then true else !sameInts (fnd r x63).new (fnd r x63).new)=true->(True/\True)/\True)/\((!bif !decide ((fnd r x63).minute=(fnd r x63).minute) then true else !sameInts (fnd r x63).new (fnd r x63).new)=true->(((!bif !decide ((fnd r x63).minute=(fnd r x63).minute) then true else !sameInts (fnd r x63).new (fnd r x63).new)=true->(!bif !decide ((fnd r x63).minute=(fnd r x63).minute) then true else !sameInts (fnd r x63).new (fnd r x63).new)=true)/\True)/\True)/\((!bif !decide ((fnd r x63).minute=(fnd r x63).minute) then true else !sameInts (fnd r x63).new (fnd r x63).new)=true->(True/\((!bif !decide ((fnd r x63).minute=(fnd r x63).minute) then true else !sameInts (fnd r x63).new (fnd r x63).new)=true->(!bif !decide ((fnd r x63).minute=(fnd r x63).minute) then true else !sameInts (fnd r x63).new (fnd r x63).new)=true)/\((!bif !decide ((fnd r x63).minute=(fnd r x63).minute) then true else !sameInts (fnd r x63).new (fnd r x63).new)=true->(!bif !decide ((fnd r x63).minute=(fnd r x63).minute) then true else !sameInts (fnd r x63).new (fnd r x63).new)=true)/\True)/\(zE (aInts (fnd r x63).frm)/\zE (aInts (fnd r x63).frm)/\True)/\Triple Try.prog 37 (s37 (fnd r x63).frm (fnd r x63).frm)/\(fnd r x63).frm.length<=1125899906842624/\True /\ ∀ (i88:Env),True)/\((!bif !decide ((fnd r x63).minute=(fnd r x63).minute) then true else !sameInts (fnd r x63).new (fnd r x63).new)=true->(((!bif !decide ((fnd r x63).minute=(fnd r x63).minute) then true else !sameInts (fnd r x63).new (fnd r x63).new)=true->(!bif !decide ((fnd r x63).minute=(fnd r x63).minute) then true else !sameInts (fnd r x63).new (fnd r x63).new)=true)/\True)/\True)/\(((bif !decide ((fnd r x63).minute=(fnd r x63).minute) then true else !sameInts (fnd r x63).new (fnd r x63).new)=true->True)/\((bif !decide ((fnd r x63).minute=(fnd r x63).minute) then true else !sameInts (fnd r x63).new (fnd r x63).new)=false->(!bif !decide ((fnd r x63).minute=(fnd r x63).minute) then true else !sameInts (fnd r x63).new (fnd r x63).new)=true))/\True) (st':=ASt.mk [(2,.ptr 0 []),(3,.ptr 8 []),(9,iv (x63:Int)),(128,bv (bif bif !decide ((fnd r x63).minute=(fnd r x63).minute) then true else !sameInts (fnd r x63).new (fnd r x63).new then true else !sameInts (fnd r x63).frm (fnd r x63).frm))] [(0,.cells 25 (cRun r)),(8,.cells 25 (cRun r))] 20640) ⟨tv,tv,tv,tv,tv,tv,(fun h65=>⟨⟨tv,tv⟩,tv⟩),(fun h66=>⟨⟨(fun h67=>h66),tv⟩,tv⟩),(fun h68=>⟨⟨tv,tv⟩,tv⟩),(fun h69=>⟨⟨(fun h70=>h69),tv⟩,tv⟩),(fun h71=>⟨⟨tv,(fun h72=>h71),(fun h73=>h71),tv⟩,⟨rfl,rfl,tv⟩,(t37 (fnd r x63).new (fnd r x63).new),(o33 hp h41 x42 hx42 h43 x63 hx63 h64 h71),tv,(fun i74=>tv)⟩),(fun h75=>⟨⟨(fun h76=>h75),tv⟩,tv⟩),⟨(fun h77=>tv),(fun h78=>(o34 hp h41 x42 hx42 h43 x63 hx63 h64 h78))⟩,tv,(fun h79=>⟨⟨tv,tv⟩,tv⟩),(fun h80=>⟨⟨(fun h81=>h80),tv⟩,tv⟩),(fun h82=>⟨⟨tv,tv⟩,tv⟩),(fun h83=>⟨⟨(fun h84=>h83),tv⟩,tv⟩),(fun h85=>⟨⟨tv,(fun h86=>h85),(fun h87=>h85),tv⟩,⟨rfl,rfl,tv⟩,(t37 (fnd r x63).frm (fnd r x63).frm),(o35 hp h41 x42 hx42 h43 x63 hx63 h64 h85),tv,(fun i88=>tv)⟩),(fun h89=>⟨⟨(fun h90=>h89),tv⟩,tv⟩),⟨(fun h91=>tv),(fun h92=>(o36 hp h41 x42 hx42 h43 x63 hx63 h64 h92))⟩,tv⟩ ?_
    refine swp_cond (bif bif !decide ((fnd r x63).minute=(fnd r x63).minute) then true else !sameInts (fnd r x63).new (fnd r x63).new then true else !sameInts (fnd r x63).frm (fnd r x63).frm) (by kernel_rfl) (fun h93 => ?_) (fun h93 => ?_)
    ·refine swp_seq ?_
     refine sQ (kt:=[4]) (kh:=[]) (q:=True/\True) (st':=ASt.mk [(4,bv false)] [] 20648) ⟨tv,tv⟩ ?_
     refine swp_ret ?_
     exact rQ [] ((True/\True)/\(zN (bv false) (bv true))/\T3) ⟨⟨tv,tv⟩,⟨(congrArg bv (o37 hp h41 x42 hx42 h43 x63 hx63 h64 h93)),rfl⟩,rfl,rfl,rfl⟩
    ·refine swp_skip ?_
     refine sQ (kt:=[2,3,9]) (kh:=[0,8]) (q:=True/\inI ((x63:Int) + 1)/\True/\True) (st':=ASt.mk [(2,.ptr 0 []),(3,.ptr 8 []),(9,iv ((x63:Int) + 1))] [(0,.cells 25 (cRun r)),(8,.cells 25 (cRun r))] 20664) ⟨tv,(o38 hp h41 x42 hx42 h43 x63 hx63 h64 h93),tv,tv⟩ ?_
     exact loop_next (z33_3 r) x63 (eQ hE [] [(0,.same 0),(8,.same 8)] [] [0,8] (((zP 0)/\(zP 8)/\(zN (iv ((x63:Int) + 1)) (iv (↑(x63 + 1):Int)))/\True)/\((zT (OB.cells 25 (cRun r)))/\(zT (OB.cells 25 (cRun r)))/\True)/\T2) ⟨⟨⟨rfl,rfl⟩,⟨rfl,rfl⟩,⟨(congrArg iv (o39 hp h41 x42 hx42 h43 x63 hx63 h64 h93)),rfl⟩,tv⟩,⟨⟨rfl,rfl⟩,⟨rfl,rfl⟩,tv⟩,rfl,rfl⟩) (o40 hp h41 x42 hx42 h43 x63 hx63 h64 h93) (o41 hp h41 x42 hx42 h43 x63 hx63 h64 h93)
   ·refine swp_exit (swp_seq ?_)
    refine sQ (kt:=[4]) (kh:=[]) (q:=True/\True) (st':=ASt.mk [(4,bv true)] [] 20368) ⟨tv,tv⟩ ?_
    refine swp_ret ?_
    exact rQ [] ((True/\True)/\(zM (bv true))/\T3) ⟨⟨tv,tv⟩,⟨rfl,rfl⟩,rfl,rfl,rfl⟩
theorem t33 (r:Run):Triple Try.prog 33 (s33 r):=by
 apply w33
 case o19=>intro hp _ x _ _ _ y hy hl _; have:=hp.2.2.1 x; simp only [decide_eq_true_eq] at hl; simp only [inI]; omega
 case o37=>intro _ _ x _ _ y _ _ h; simp [sameInts] at h
 all_goals (first | ((repeat intro _) <;> (try simp only [v0,v1,v2,v3,v4,v5,v6,v7,v8,v9,inI,fits,Go.Sh.small] at *) <;> first | (exact rfl) | omega | exact vz | (simp_all; done) | (simp_all; omega)) | skip)
end Go.Ab
namespace Go.Ab
open Go Go.RowKit
section
variable {C:Ctx} {nt:Nat} {K:AX->ASt->Prop} {st:ASt}
end
structure JoinH where
 tm:List (Nat × AV):=[]
 hp:List (Nat × OB):=[]
end Go.Ab
namespace Go.Ab
open Go Go.RowKit
def rnC (l:List (Nat × Nat)):AV->AV
 | .vec b => .vec (renI l b)
 | .ptr b p => .ptr (renI l b) p
 | v=>v
def rnV (l:List (Nat × Nat)):AV->AV
 | .agg cs => .agg (cs.map (rnC l))
 | .clo f cs => .clo f (cs.map (rnC l))
 | v=>rnC l v
def rnR (l:List (Nat × Nat)):AV->AV
 | .tup vs => .tup (vs.map (rnV l))
 | v=>rnV l v
def rnB (l:List (Nat × Nat)):OB->OB
 | .cells t cs => .cells t (cs.map (rnC l))
 | .vecx t sz n f j fj => .vecx t sz n f j (fj.map (rnC l))
 | ob=>ob
def kC (ks:List Nat):AV->Bool
 | .vec b=>ks.contains b
 | .ptr b _=>ks.contains b
 | .agg _=>false
 | .clo _ _=>false
 | .tup _=>false
 | v=>(ids v).isEmpty
def kV (ks:List Nat):AV->Bool
 | .agg cs=>cs.all (kC ks)
 | .clo _ cs=>cs.all (kC ks)
 | v=>kC ks v
def kR (ks:List Nat):AV->Bool
 | .tup vs=>vs.all (kV ks)
 | v=>kV ks v
def kB (ks:List Nat):OB->Bool
 | .cells _ cs=>cs.all (kC ks)
 | .vec _ _ _ _=>true
 | .vecx _ _ _ _ _ fj=>fj.all (kC ks)
 | _=>false
structure Rn (l:List (Nat × Nat)) (ks:List Nat) (E F:Env):Prop where
 M:∀ b o,E.M b=some o->F.M b=some o
 fns:F.fns=E.fns
 same:∀ c,c ∈ ks->F.blk (renI l c)=E.blk c/\F.hdr (renI l c)=E.hdr c
section
variable {l:List (Nat × Nat)} {ks:List Nat} {E F:Env}
theorem rnC_rel (hr:Rn l ks E F) {v:AV} {u:Value} (ho:kC ks v=true) (h:Rel E true v u):Rel F true (rnC l v) u:=by
 cases v with
 | vec b =>
  have hm:b ∈ ks:=by simpa [kC] using ho
  cases h with
  | vec _ hh h1=>exact .vec _ (by rw [(hr.same b hm).2]; exact hh) h1
 | ptr b p =>
  have hm:b ∈ ks:=by simpa [kC] using ho
  cases h with
  | ptr _ _ hh=>exact .ptr _ p (by rw [(hr.same b hm).1]; exact hh)
 | agg cs=>cases ho
 | clo f cs=>cases ho
 | tup cs=>cases ho
 | _ =>
  simp only [rnC]
  simp only [kC,List.isEmpty_iff] at ho
  exact Rel.trim hr.M hr.fns h (fun _=>ho)
theorem rnC_inv (hM:F.M=E.M) (hf:F.fns=E.fns) (hs:∀ c,c ∈ ks->F.blk (renI l c)=E.blk c/\F.hdr (renI l c)=E.hdr c) {v:AV} {u:Value} (ho:kC ks v=true) (h:Rel F true (rnC l v) u):Rel E true v u:=by
 cases v with
 | vec b =>
  have hm:b ∈ ks:=by simpa [kC] using ho
  cases h with
  | vec _ hh h1=>exact .vec _ (by rw [← (hs b hm).2]; exact hh) h1
 | ptr b p =>
  have hm:b ∈ ks:=by simpa [kC] using ho
  cases h with
  | ptr _ _ hh=>exact .ptr _ p (by rw [← (hs b hm).1]; exact hh)
 | agg cs=>cases ho
 | clo f cs=>cases ho
 | tup cs=>cases ho
 | _ =>
  simp only [rnC] at h
  simp only [kC,List.isEmpty_iff] at ho
  exact Rel.trim (fun b o e=>by rw [← hM]; exact e) hf.symm h (fun _=>ho)
theorem rnL_rel (hr:Rn l ks E F):∀ {cs:List AV} {us:List Value},cs.all (kC ks)=true->RelL E true cs us->RelL F true (cs.map (rnC l)) us:=by
 intro cs
 induction cs with
 | nil=>intro us _ h; cases h; exact .nil
 | cons c cs ih =>
  intro us ho h
  simp only [List.all_cons,Bool.and_eq_true] at ho
  cases h with
  | cons h h1 hs=>exact .cons (rnC_rel hr ho.1 h) h1 (ih ho.2 hs)
  | arr g hg h hs=>exact .arr g hg (fun i hi=>(h i hi).trim hr.M hr.fns) (ih ho.2 hs)
theorem rnL_inv (hM:F.M=E.M) (hf:F.fns=E.fns) (hs:∀ c,c ∈ ks->F.blk (renI l c)=E.blk c/\F.hdr (renI l c)=E.hdr c):∀ {cs:List AV} {us:List Value},cs.all (kC ks)=true->RelL F true (cs.map (rnC l)) us->RelL E true cs us:=by
 intro cs
 induction cs with
 | nil=>intro us _ h; cases h; exact .nil
 | cons c cs ih =>
  intro us ho h
  simp only [List.all_cons,Bool.and_eq_true] at ho
  rw [List.map_cons] at h
  generalize hz:rnC l c=z at h
  cases h with
  | cons h h1 hs'=>subst hz; exact .cons (rnC_inv hM hf hs ho.1 h) h1 (ih ho.2 hs')
  | arr g hg h hs' =>
   rename_i sz n f us
   have:c = .arr sz n f:=by cases c <;> simp only [rnC] at hz <;> first | exact hz | cases hz
   subst this
   exact .arr g hg (fun i hi=>(h i hi).trim (fun b o e=>by rw [← hM]; exact e) hf.symm) (ih ho.2 hs')
theorem getD_map_any (g:AV->AV) (hg:g .any = .any) (vs:List AV) (k:Nat):(vs.map g).getD k .any=g (vs.getD k .any):=by
 by_cases hlt:k < vs.length
 ·simp [List.getD,List.getElem?_eq_getElem hlt]
 ·rw [List.getD_eq_getElem?_getD,List.getElem?_eq_none (by simpa using hlt),List.getD_eq_getElem?_getD,List.getElem?_eq_none (by omega)]
  exact hg.symm
theorem all_getD {p:AV->Bool} (hp:p .any=true) {vs:List AV} (h:vs.all p=true) (k:Nat):p (vs.getD k .any)=true:=by
 by_cases hlt:k < vs.length
 ·rw [List.all_eq_true] at h
  have:vs.getD k .any=vs[k]:=by simp [List.getD,List.getElem?_eq_getElem hlt]
  rw [this]; exact h _ (List.getElem_mem hlt)
 ·rw [List.getD_eq_getElem?_getD,List.getElem?_eq_none (by omega)]; exact hp
theorem rnV_rel (hr:Rn l ks E F) {v:AV} {u:Value} (ho:kV ks v=true) (h:Rel E true v u):Rel F true (rnV l v) u:=by
 cases v with
 | agg cs=>cases h with | agg hl=>exact .agg (rnL_rel hr ho hl)
 | clo f cs =>
  cases h with
  | clo _ hl hk=>exact .clo f (by rw [List.length_map]; exact hl) fun k=>by rw [getD_map_any _ rfl]; exact rnC_rel hr (all_getD (p:=kC ks) rfl ho k) (hk k)
 | _ =>
  simp only [rnV]
  simp only [kV] at ho
  exact rnC_rel hr ho h
theorem rnV_inv (hM:F.M=E.M) (hf:F.fns=E.fns) (hs:∀ c,c ∈ ks->F.blk (renI l c)=E.blk c/\F.hdr (renI l c)=E.hdr c) {v:AV} {u:Value} (ho:kV ks v=true) (h:Rel F true (rnV l v) u):Rel E true v u:=by
 cases v with
 | agg cs=>cases h with | agg hl=>exact .agg (rnL_inv hM hf hs ho hl)
 | clo f cs =>
  cases h with
  | clo _ hl hk=>exact .clo f (by rw [List.length_map] at hl; exact hl) fun k=>by have:=hk k; rw [getD_map_any _ rfl] at this; exact rnC_inv hM hf hs (all_getD (p:=kC ks) rfl ho k) this
 | _ =>
  simp only [rnV] at h
  simp only [kV] at ho
  exact rnC_inv hM hf hs ho h
theorem rnR_rel (hr:Rn l ks E F) {v:AV} {u:Value} (ho:kR ks v=true) (h:Rel E true v u):Rel F true (rnR l v) u:=by
 cases v with
 | tup cs =>
  cases h with
  | tup hl hk=>exact .tup (by rw [List.length_map]; exact hl) fun k=>by rw [getD_map_any _ rfl]; exact rnV_rel hr (all_getD (p:=kV ks) rfl ho k) (hk k)
 | _ =>
  simp only [rnR]
  simp only [kR] at ho
  exact rnV_rel hr ho h
theorem rnB_inv {C C':Ctx} {w:World} {c:Nat} {ob:OB} (hM:F.M=E.M) (hf:F.fns=E.fns) (hs:∀ c,c ∈ ks->F.blk (renI l c)=E.blk c/\F.hdr (renI l c)=E.hdr c) (hav:∀ k,C.avail k->C'.avail k) (hc:c ∈ ks) (ho:kB ks ob=true) (h:OwnOB C F w (renI l c) (rnB l ob)):OwnOB C' E w c ob:=by
 have hb:=(hs c hc).1
 have hh:=(hs c hc).2
 have tr:∀ {cs:List AV} {us:List Value},RelL F false cs us->RelL E false cs us:=fun h=>h.trim (fun b o e=>by rw [← hM]; exact e) hf.symm
 cases ob with
 | cells t cs =>
  obtain ⟨k,us,h1,h2,h3,h4,h5⟩:=h
  exact ⟨k,us,by rw [← hb]; exact h1,hav k h2,by rw [← hM]; exact h3,h4,rnL_inv hM hf hs ho h5⟩
 | vec t sz n f =>
  obtain ⟨hd,g,h1,h2,h3,h4,h5,h6⟩:=h
  exact ⟨hd,g,by rw [← hh]; exact h1,h2,h3,fun i hi=>tr (h4 i hi),by rw [← hb]; exact h5,fun k hk=>⟨hav k (h6 k hk).1,by rw [← hM]; exact (h6 k hk).2⟩⟩
 | vecx t sz n f j fj =>
  obtain ⟨hd,g,h1,h2,h3,h4,h7,h5,h6⟩:=h
  exact ⟨hd,g,by rw [← hh]; exact h1,h2,h3,fun i hi hij=>tr (h4 i hi hij),fun hj=>rnL_inv hM hf hs ho (h7 hj),by rw [← hb]; exact h5,fun k hk=>⟨hav k (h6 k hk).1,by rw [← hM]; exact (h6 k hk).2⟩⟩
 | _=>cases ho
theorem rnB_own {C C':Ctx} {w:World} {c:Nat} {ob:OB} (hr:Rn l ks E F) (hMM:∀ b,E.M b=none->F.M b=none) (hav:∀ k,C.avail k->C'.avail k) (hc:c ∈ ks) (ho:kB ks ob=true) (h:OwnOB C E w c ob):OwnOB C' F w (renI l c) (rnB l ob):=by
 have hb:=(hr.same c hc).1
 have hh:=(hr.same c hc).2
 cases ob with
 | cells t cs =>
  obtain ⟨k,us,h1,h2,h3,h4,h5⟩:=h
  exact ⟨k,us,by rw [hb]; exact h1,hav k h2,hMM k h3,h4,rnL_rel hr ho h5⟩
 | vec t sz n f =>
  obtain ⟨hd,g,h1,h2,h3,h4,h5,h6⟩:=h
  exact ⟨hd,g,by rw [hh]; exact h1,h2,h3,fun i hi=>(h4 i hi).trim hr.M hr.fns,by rw [hb]; exact h5,fun k hk=>⟨hav k (h6 k hk).1,hMM k (h6 k hk).2⟩⟩
 | vecx t sz n f j fj =>
  obtain ⟨hd,g,h1,h2,h3,h4,h7,h5,h6⟩:=h
  exact ⟨hd,g,by rw [hh]; exact h1,h2,h3,fun i hi hij=>(h4 i hi hij).trim hr.M hr.fns,fun hj=>rnL_rel hr ho (h7 hj),by rw [hb]; exact h5,fun k hk=>⟨hav k (h6 k hk).1,hMM k (h6 k hk).2⟩⟩
 | _=>cases ho
end
structure IoSpec where
 args:List AV
 pre:Prop:=True
 fnok:Env->Prop:=fun _=>True
 hin:List (Nat × OB):=[]
 res:AV
 hout:List (Nat × OB):=[]
def IoSpec.at (s:IoSpec) (l:List (Nat × Nat)):CallSpec:={ args:=s.args.map (rnV l),pre:=s.pre,fnok:=s.fnok,hin:=s.hin.map (fun p=>(renI l p.1,rnB l p.2)),res:=rnR l s.res,hout:=s.hout.map (fun p=>(renI l p.1,rnB l p.2)) }
def IoSpec.ok (s:IoSpec) (N:Nat) (ks:List Nat):Bool :=
 noDup ks && noDup (s.hin.map (·.1)) && noDup (s.hout.map (·.1)) && s.args.all (kV (s.hin.map (·.1))) && s.hin.all (fun p=>kB (s.hin.map (·.1)) p.2 && ks.contains p.1 && decide (p.1 < N)) && kR (s.hout.map (·.1)) s.res && s.hout.all (fun p=>kB (s.hout.map (·.1)) p.2 && ks.contains p.1)
theorem renI_inj {l:List (Nat × Nat)} (h1:(l.map (·.1)).Nodup) (h2:(l.map (·.2)).Nodup) {a b:Nat} (ha:a ∈ l.map (·.1)) (hb:b ∈ l.map (·.1)) (e:renI l a=renI l b):a=b:=by
 have ma:=renI_mem ha
 have mb:=renI_mem hb
 have ua:=unI_of h2 ma
 have ub:=unI_of h2 mb
 rw [e,ub] at ua
 cases ua; rfl
theorem heap_of_map {l:List (Nat × Nat)} {hs:List (Nat × OB)} (h:∀ a b,a ∈ hs.map (·.1)->b ∈ hs.map (·.1)->renI l a=renI l b->a=b) {c:Nat} {ob:OB} (hc:Heap.of hs c=some ob):Heap.of (hs.map fun p=>(renI l p.1,rnB l p.2)) (renI l c)=some (rnB l ob):=by
 induction hs with
 | nil=>cases hc
 | cons p r ih =>
  rw [Heap.of_cons] at hc
  rw [List.map_cons,Heap.of_cons]
  by_cases e:p.1=c
  ·rw [if_pos e] at hc
   cases hc
   rw [if_pos (by rw [e])]
  ·rw [if_neg e] at hc
   have hm:c ∈ r.map (·.1):=List.mem_map_of_mem (f:=fun x:Nat × OB=>x.1) (Heap.of_mem hc)
   rw [if_neg (fun e'=>e (h p.1 c (by simp) (by simp only [List.map_cons,List.mem_cons]; exact .inr hm) e'))]
   exact ih (fun a b ha hb=>h a b (List.mem_cons_of_mem _ ha) (List.mem_cons_of_mem _ hb)) hc
theorem heap_of_map_inv {l:List (Nat × Nat)} {hs:List (Nat × OB)} {i:Nat} {ob:OB} (hi:Heap.of (hs.map fun p=>(renI l p.1,rnB l p.2)) i=some ob):∃ c ob0,(c,ob0) ∈ hs/\i=renI l c/\ob=rnB l ob0:=by
 obtain ⟨p,hp,he⟩:=List.mem_map.1 (Heap.of_mem hi)
 cases he
 exact ⟨p.1,p.2,hp,rfl,rfl⟩
theorem triple_io {P:Program} {f:FuncId} {fn:Func} {c:Code} {T:Tab} (hf:P.funcs[f]? = some fn) (hb:fn.body=some c) (hcall:Callable P f) (hT:Tab.ok P T) (s:IoSpec) (N:Nat) (l:List (Nat × Nat))
  (hok:s.ok N (l.map (·.1))=true) (hnd:(l.map (·.2)).Nodup) (hn:s.args.length<=fn.ntmps) (hfn:∀ E E':Env,E'.M=E.M->E'.fns=E.fns->s.fnok E->s.fnok E')
  (body:s.pre -> ∀ C:Ctx,C.P=P->s.fnok C.E0->(∀ j,N<=j->C.E0.blk j=none/\C.E0.hdr j=none)->SWP C fn.ntmps c (RetO C fn.ntmps T fn.results.toList s.res s.hout) ⟨argsTm s.args 0,s.hin,N⟩) :
  Triple P f (s.at l):=by
 simp only [IoSpec.ok,Bool.and_eq_true,List.all_eq_true,List.contains_eq_mem,decide_eq_true_eq] at hok
 obtain ⟨⟨⟨⟨⟨⟨o1,o2⟩,o3⟩,o4⟩,o5⟩,o6⟩,o7⟩:=hok
 have hkd:(l.map (·.1)).Nodup:=noDup_nodup o1
 have hargs:s.args.all (kV (s.hin.map (·.1)))=true:=by rw [List.all_eq_true]; exact o4
 have hik:∀ a,a ∈ s.hin.map (·.1)->a ∈ l.map (·.1)/\a < N:=by
  intro a ha
  obtain ⟨p,hp,rfl⟩:=List.mem_map.1 ha
  exact ⟨(o5 p hp).1.2,(o5 p hp).2⟩
 have hok':∀ a,a ∈ s.hout.map (·.1)->a ∈ l.map (·.1):=by
  intro a ha
  obtain ⟨p,hp,rfl⟩:=List.mem_map.1 ha
  exact (o7 p hp).2
 have inj:∀ a b,a ∈ l.map (·.1)->b ∈ l.map (·.1)->renI l a=renI l b->a=b:=fun a b ha hb e=>renI_inj hkd hnd ha hb e
 refine ⟨hcall,fun hpre E w vs hfnok hh hlen hrel hfresh => ?_⟩
 let hinR:=s.hin.map (fun p=>(renI l p.1,rnB l p.2))
 let E0:Env:={ E with blk:=fun j=>if j ∈ s.hin.map (·.1) then E.blk (renI l j) else none,hdr:=fun j=>if j ∈ s.hin.map (·.1) then E.hdr (renI l j) else none }
 have hs0:∀ c,c ∈ s.hin.map (·.1)->E.blk (renI l c)=E0.blk c/\E.hdr (renI l c)=E0.hdr c:=by
  intro c hc
  exact ⟨(if_pos hc).symm,(if_pos hc).symm⟩
 let C:Ctx:=⟨P,w,E0,(calleeCtx P E w hinR).avail,fun _ h => .inl h⟩
 have hok0:HeapOK C E0 (Heap.of s.hin) w:=by
  refine ⟨rfl,rfl,rfl,Nat.le_refl _,fun _ _=>rfl,fun b o h=>hh.mem b o h,Env.le.refl _,fun b o h => .inl h,fun i ob h => ?_,fun i j x hij hi hj hix hjx => ?_⟩
  ·have hm:i ∈ s.hin.map (·.1):=List.mem_map_of_mem (f:=fun x:Nat × OB=>x.1) (Heap.of_mem h)
   have ho:=hh.own (renI l i) (rnB l ob) (heap_of_map (fun a b ha hb=>inj a b (hik a ha).1 (hik b hb).1) h)
   exact rnB_inv (C:=calleeCtx P E w hinR) (C':=C) (E:=E0) (F:=E) rfl rfl hs0 (fun _ h=>h) hm (o5 _ (Heap.of_mem h)).1.1 ho
  ·have get:∀ i,Heap.of s.hin i ≠ none -> ∃ ob,Heap.of s.hin i=some ob:=fun i h=>by
    cases e:Heap.of s.hin i with
    | none=>exact absurd e h
    | some ob=>exact ⟨ob,rfl⟩
   obtain ⟨oi,ei⟩:=get i hi
   obtain ⟨oj,ej⟩:=get j hj
   have mi:i ∈ s.hin.map (·.1):=List.mem_map_of_mem (f:=fun x:Nat × OB=>x.1) (Heap.of_mem ei)
   have mj:j ∈ s.hin.map (·.1):=List.mem_map_of_mem (f:=fun x:Nat × OB=>x.1) (Heap.of_mem ej)
   have hR:=fun a b (ha:a ∈ s.hin.map (·.1)) (hb:b ∈ s.hin.map (·.1))=>inj a b (hik a ha).1 (hik b hb).1
   refine hh.sep (renI l i) (renI l j) x (fun e=>hij (hR i j mi mj e)) ?_ ?_ (by rw [(hs0 i mi).1]; exact hix) (by rw [(hs0 j mj).1]; exact hjx)
   ·show Heap.of hinR _ ≠ none
    rw [heap_of_map hR ei]; simp
   ·show Heap.of hinR _ ≠ none
    rw [heap_of_map hR ej]; simp
 have hl':vs.length=s.args.length:=by rw [hlen]; exact List.length_map _
 have htm:∀ t,Rel E0 true (look (argsTm s.args 0) t) ((vs.toArray ++ Array.replicate (fn.ntmps - vs.toArray.size) undef).getD t undef):=by
  intro t
  rw [look_args,if_pos (Nat.zero_le _),Nat.sub_zero]
  rcases Nat.lt_or_ge t vs.length with ht | ht
  ·have h1:(vs.toArray ++ Array.replicate (fn.ntmps - vs.toArray.size) undef).getD t undef=vs.getD t undef:=by
    simp only [Array.getD_eq_getD_getElem?,List.getD_eq_getElem?_getD]
    rw [Array.getElem?_append_left (by simpa using ht)]
    simp
   rw [h1]
   have h2:=hrel t
   rw [show (s.at l).args=s.args.map (rnV l) from rfl,getD_map_any _ rfl] at h2
   exact rnV_inv (E:=E0) (F:=E) rfl rfl hs0 (all_getD (p:=kV (s.hin.map (·.1))) rfl hargs t) h2
  ·rw [List.getD_eq_getElem?_getD,List.getElem?_eq_none (by omega)]
   exact .any _
 have hnone:∀ j,N<=j->E0.blk j=none/\E0.hdr j=none:=by
  intro j hj
  have:¬ j ∈ s.hin.map (·.1):=fun h=>by have:=(hik j h).2; omega
  exact ⟨if_neg this,if_neg this⟩
 have hsat:Sat C E0 fn.ntmps ⟨argsTm s.args 0,s.hin,N⟩ w { tmps:=vs.toArray ++ Array.replicate (fn.ntmps - vs.toArray.size) undef,defers:=[] } :=
  ⟨⟨hok0,htm,rfl,by simp; omega⟩,fun j hj=>hnone j hj⟩
 have hsw:=body hpre C rfl (hfn E E0 rfl rfl hfnok) hnone E0 w _ hsat
 refine calls_of_wp hf hb (wp_mono hsw ?_)
 rintro e a' w' ⟨x,E1,st1,rfl,hs1,hk1⟩
 have fin:(∃ st2,Ent C fn.ntmps st1 st2/\retO T fn.results.toList st2 s.res s.hout)->a'.defers = [] /\ ∃ v,(results fn a'.tmps).run P w' = .ok v w'/\CallPost P (s.at l) E w (.returned v) w':=by
  rintro ⟨st2,hent,hq⟩
  obtain ⟨E',hs'⟩:=hent E1 w' a' hs1
  refine ⟨hs'.ok.defers,?_⟩
  unfold retO at hq
  split at hq
  ·rename_i q rvs hrv
   obtain ⟨hq0,hres0,hho⟩:=hq
   obtain ⟨us,hus,hul,hur⟩:=resVals_run (C:=C) hT hs' _ q rvs hrv hq0
   refine ⟨_,results_run (P:=P) hus,?_⟩
   have hrv':Rel E' true (retAV rvs) (if h:us.length=1 then us[0] else .tuple us.toArray):=by
    cases rvs with
    | nil =>
     have:us = []:=List.eq_nil_of_length_eq_zero hul
     subst this
     exact .tup rfl (fun k=>hur k)
    | cons v r =>
     cases r with
     | nil =>
      have hul1:us.length=1:=hul
      rw [dif_pos hul1]
      have:=hur 0
      simp only [List.getD_cons_zero] at this
      rw [List.getD_eq_getElem?_getD,List.getElem?_eq_getElem (by omega)] at this
      exact this
     | cons v2 r =>
      have hne:¬ us.length=1:=by rw [hul]; simp
      rw [dif_neg hne]
      exact .tup (cs:=v :: v2 :: r) hul hur
   rw [hres0] at hrv'
   have hle:=hs'.ok.heap.le
   let lo:=l.filter fun p=>(s.hout.map (·.1)).contains p.1
   have hlod:(lo.map (·.2)).Nodup:=(List.Sublist.map _ List.filter_sublist).nodup hnd
   have hlo:∀ c,c ∈ s.hout.map (·.1)->unI lo (renI l c)=some c:=by
    intro c hc
    refine unI_of hlod ?_
    exact List.mem_filter.2 ⟨renI_mem (hok' c hc),by simpa using hc⟩
   have hloi:∀ j c,unI lo j=some c->c ∈ s.hout.map (·.1)/\renI l c=j:=by
    intro j c h
    have hm:=unI_mem h
    obtain ⟨h1,h2⟩:=List.mem_filter.1 hm
    have hc:c ∈ s.hout.map (·.1):=by simpa using h2
    refine ⟨hc,?_⟩
    have ma:=renI_mem (hok' c hc)
    have key:∀ {l:List (Nat × Nat)},(l.map (·.1)).Nodup -> ∀ {c a b:Nat},(c,a) ∈ l->(c,b) ∈ l->a=b:=by
     intro l
     induction l with
     | nil=>intro _ c a b h; cases h
     | cons p r ih =>
      intro hn c a b ha hb
      rw [List.map_cons,List.nodup_cons] at hn
      cases ha with
      | head =>
       cases hb with
       | head=>rfl
       | tail _ hb=>exact absurd (List.mem_map_of_mem (f:=fun x:Nat × Nat=>x.1) hb) hn.1
      | tail _ ha =>
       cases hb with
       | head=>exact absurd (List.mem_map_of_mem (f:=fun x:Nat × Nat=>x.1) ha) hn.1
       | tail _ hb=>exact ih hn.2 ha hb
    exact key hkd ma h1
   let F:Env:={ E with M:=E'.M,blk:=fun j=>match unI lo j with | some c=>E'.blk c | none=>E.blk j,hdr:=fun j=>match unI lo j with | some c=>E'.hdr c | none=>E.hdr j }
   have Fb:∀ j c,unI lo j=some c->F.blk j=E'.blk c/\F.hdr j=E'.hdr c:=by
    intro j c h
    constructor
    ·show (match unI lo j with | some c=>E'.blk c | none=>E.blk j)=_
     rw [h]
    ·show (match unI lo j with | some c=>E'.hdr c | none=>E.hdr j)=_
     rw [h]
   have Fn:∀ j,unI lo j=none->F.blk j=E.blk j/\F.hdr j=E.hdr j:=by
    intro j h
    constructor
    ·show (match unI lo j with | some c=>E'.blk c | none=>E.blk j)=_
     rw [h]
    ·show (match unI lo j with | some c=>E'.hdr c | none=>E.hdr j)=_
     rw [h]
   have hfns:F.fns=E'.fns:=by
    show E.fns=E'.fns
    exact (hle.fns.symm:E0.fns=E'.fns)
   have hren:Rn l (s.hout.map (·.1)) E' F:=⟨fun b o h=>h,hfns,fun c hc=>Fb _ _ (hlo c hc)⟩
   have lF:E.le F:=by
    refine ⟨fun b o h=>hle.M b o h,fun j k h => ?_,fun j u h => ?_,rfl⟩
    ·cases e:unI lo j with
     | none=>rw [(Fn j e).1]; exact h
     | some c =>
      rw [(Fb j c e).1]
      obtain ⟨hc,rfl⟩:=hloi j c e
      by_cases hi:c ∈ s.hin.map (·.1)
      ·exact hle.blk c k (by rw [← (hs0 c hi).1]; exact h)
      ·exfalso
       obtain ⟨p,hp,rfl⟩:=List.mem_map.1 hc
       have:=hfresh (renI l p.1,rnB l p.2) (List.mem_map_of_mem (f:=fun p:Nat × OB=>(renI l p.1,rnB l p.2)) hp) (fun q hq e=>by
        obtain ⟨p2,hp2,rfl⟩:=List.mem_map.1 hq
        have hm2:p2.1 ∈ s.hin.map (·.1):=List.mem_map_of_mem (f:=fun x:Nat × OB=>x.1) hp2
        exact hi (by rw [← inj _ _ (hik _ hm2).1 (hok' _ hc) e]; exact hm2))
       rw [this.1] at h; cases h
    ·cases e:unI lo j with
     | none=>rw [(Fn j e).2]; exact h
     | some c =>
      rw [(Fb j c e).2]
      obtain ⟨hc,rfl⟩:=hloi j c e
      by_cases hi:c ∈ s.hin.map (·.1)
      ·exact hle.hdr c u (by rw [← (hs0 c hi).2]; exact h)
      ·exfalso
       obtain ⟨p,hp,rfl⟩:=List.mem_map.1 hc
       have:=hfresh (renI l p.1,rnB l p.2) (List.mem_map_of_mem (f:=fun p:Nat × OB=>(renI l p.1,rnB l p.2)) hp) (fun q hq e=>by
        obtain ⟨p2,hp2,rfl⟩:=List.mem_map.1 hq
        have hm2:p2.1 ∈ s.hin.map (·.1):=List.mem_map_of_mem (f:=fun x:Nat × OB=>x.1) hp2
        exact hi (by rw [← inj _ _ (hik _ hm2).1 (hok' _ hc) e]; exact hm2))
       rw [this.2] at h; cases h
   have h':=hs'.ok.heap
   refine ⟨_,F,rfl,?_,rnR_rel hren o6 hrv',fun j hj => ?_⟩
   ·refine ⟨h'.os,h'.tape,h'.output,h'.size,fun x hx=>h'.pres x hx,fun x o h=>h'.mem x o h,lF,fun x o h=>h'.ext x o h,fun i ob hi => ?_,fun i j y hij hi hj hiy hjy => ?_⟩
    ·obtain ⟨c,ob0,hm,rfl,rfl⟩:=heap_of_map_inv hi
     have hc:c ∈ s.hout.map (·.1):=List.mem_map_of_mem (f:=fun x:Nat × OB=>x.1) hm
     exact rnB_own (C:=C) (C':=calleeCtx P E w hinR) hren (fun _ h=>h) (fun _ h=>h) hc (o7 _ hm).1 (h'.own c ob0 (hoIn_mem hho _ hm))
    ·have get:∀ i,Heap.of (s.at l).hout i ≠ none->F.blk i=some y -> ∃ c,i=renI l c/\Heap.of st2.hp c ≠ none/\E'.blk c=some y:=by
      intro i hi hiy
      cases e:Heap.of (s.at l).hout i with
      | none=>exact absurd e hi
      | some ob =>
       obtain ⟨c,ob0,hm,rfl,rfl⟩:=heap_of_map_inv e
       have hc:c ∈ s.hout.map (·.1):=List.mem_map_of_mem (f:=fun x:Nat × OB=>x.1) hm
       refine ⟨c,rfl,by rw [hoIn_mem hho _ hm]; simp,?_⟩
       rw [← (Fb _ _ (hlo c hc)).1]; exact hiy
     obtain ⟨c1,rfl,n1,k1⟩:=get i hi hiy
     obtain ⟨c2,rfl,n2,k2⟩:=get j hj hjy
     exact h'.sep c1 c2 y (fun e=>hij (by rw [e])) n1 n2 k1 k2
   ·refine Fn j ?_
    cases e:unI lo j with
    | none=>rfl
    | some c =>
     obtain ⟨hc,rfl⟩:=hloi j c e
     obtain ⟨p,hp,rfl⟩:=List.mem_map.1 hc
     exact absurd rfl (hj (renI l p.1,rnB l p.2) (List.mem_map_of_mem (f:=fun p:Nat × OB=>(renI l p.1,rnB l p.2)) hp))
  ·exact hq.elim
 cases x with
 | normal=>exact fin hk1
 | ret=>exact fin hk1
 | exit id=>exact hk1.elim
section
variable {C:Ctx} {nt:Nat} {st:ASt}
theorem ent_n {st2:ASt} (N:Nat) (hE0:∀ j,N<=j->C.E0.blk j=none/\C.E0.hdr j=none) (bs:List Nat) (mp:List (Nat × Src)) (kt kh:List Nat) (q:Prop) (hb:entB N st2 bs mp=true) (he:entK st st2 bs mp kt kh=q) (hq:q):Ent C nt st st2 :=
 ent_of hE0 bs mp hb (entK_Q (by rw [he]; exact hq))
end
end Go.Ab
namespace Go.Sh
def idxW (l:List WayS) (P:WayS->Bool):Int:=match l.findIdx? P with | some i=>i | none => -1
theorem idxW_found {l:List WayS} {P:WayS->Bool} {x:Nat} (hx:x < l.length) (h:∀ j,j < x->P (l.getD j default)=false) (hp:P (l.getD x default)=true):idxW l P=x:=by
 have:l.findIdx? P=some x:=by
  rw [List.findIdx?_eq_some_iff_getElem]
  refine ⟨hx,by rw [← Go.Ab.getD_lt l default hx]; exact hp,fun j hj => ?_⟩
  rw [← Go.Ab.getD_lt l default (by omega),h j hj]; simp
 simp [idxW,this]
theorem idxW_none {l:List WayS} {P:WayS->Bool} (h:∀ j,j < l.length->P (l.getD j default)=false):idxW l P = -1:=by
 have:l.findIdx? P=none:=by
  rw [List.findIdx?_eq_none_iff]
  intro x hx
  have h1:=Go.Ab.any_idx l default P h
  rw [List.any_eq_false] at h1
  simpa using h1 x hx
 simp [idxW,this]
theorem idxW_spec (l:List WayS) (P:WayS->Bool):(idxW l P = -1 /\ ∀ w,w ∈ l->P w=false) ∨ ∃ i:Nat,idxW l P=i/\i < l.length/\P (l.getD i default)=true /\ ∀ j,j < i->P (l.getD j default)=false:=by
 unfold idxW
 cases e:l.findIdx? P with
 | none =>
  left
  rw [List.findIdx?_eq_none_iff] at e
  exact ⟨rfl,e⟩
 | some i =>
  right
  rw [List.findIdx?_eq_some_iff_getElem] at e
  obtain ⟨h,h1,h2⟩:=e
  refine ⟨i,rfl,h,by rw [Go.Ab.getD_lt l default h]; exact h1,fun j hj => ?_⟩
  rw [Go.Ab.getD_lt l default (by omega)]
  simpa using h2 j hj
def keptW (l:List WayS) (P:WayS->Bool) (n:Nat):List WayS:=(l.take n).filter fun w => !P w
def delW (l:List WayS) (P:WayS->Bool):List WayS:=l.filter fun w => !P w
theorem keptW_t {l:List WayS} {P:WayS->Bool} {n:Nat} (h:n < l.length) (hp:P (l.getD n default)=true):keptW l P (n + 1)=keptW l P n:=by
 unfold keptW; rw [Go.Ab.take_succ _ default h,List.filter_append,List.filter_cons_of_neg (by rw [hp]; exact Bool.false_ne_true),List.filter_nil,List.append_nil]
theorem keptW_f {l:List WayS} {P:WayS->Bool} {n:Nat} (h:n < l.length) (hp:P (l.getD n default)=false):keptW l P (n + 1)=keptW l P n ++ [l.getD n default]:=by
 unfold keptW; rw [Go.Ab.take_succ _ default h,List.filter_append,List.filter_cons_of_pos (by rw [hp]; rfl)]; rfl
theorem keptW_len (l:List WayS) (P:WayS->Bool) (n:Nat):(keptW l P n).length<=n:=by
 unfold keptW; exact Nat.le_trans (List.length_filter_le _ _) (by rw [List.length_take]; omega)
theorem keptW_full {l:List WayS} {P:WayS->Bool} {n:Nat} (h:l.length<=n):keptW l P n=delW l P:=by
 unfold keptW delW; rw [List.take_of_length_le h]
theorem keptW_first {l:List WayS} {P:WayS->Bool}:∀ {n:Nat},n<=l.length->(∀ j,j < n->P (l.getD j default)=false)->keptW l P n=l.take n:=by
 intro n
 induction n with
 | zero=>intro _ _; rfl
 | succ n ih=>intro h h1; rw [keptW_f (by omega) (h1 n (by omega)),ih (by omega) (fun j hj=>h1 j (by omega)),Go.Ab.take_succ _ default (by omega)]
def rowW (l:List WayS) (P:WayS->Bool) (n q:Nat):WayS:=if q < (keptW l P n).length then (keptW l P n).getD q default else l.getD q default
def firstD (l:List WayS) (P:WayS->Bool):Nat:=(idxW l P).toNat
theorem first_spec {l:List WayS} {P:WayS->Bool} (h:decide (idxW l P = -1)=false):idxW l P=firstD l P/\firstD l P < l.length/\P (l.getD (firstD l P) default)=true /\ ∀ j,j < firstD l P->P (l.getD j default)=false:=by
 have h0:idxW l P ≠ -1:=of_decide_eq_false h
 rcases idxW_spec l P with ⟨e,_⟩ | ⟨i,e,h1,h2,h3⟩
 ·exact absurd e h0
 ·have:firstD l P=i:=by unfold firstD; rw [e]; rfl
  rw [this]; exact ⟨e,h1,h2,h3⟩
theorem kept_first {l:List WayS} {P:WayS->Bool} (h:decide (idxW l P = -1)=false):keptW l P (firstD l P + 1)=l.take (firstD l P)/\(keptW l P (firstD l P + 1)).length=firstD l P:=by
 obtain ⟨_,h1,h2,h3⟩:=first_spec h
 have:keptW l P (firstD l P + 1)=l.take (firstD l P):=by rw [keptW_t h1 h2,keptW_first (by omega) h3]
 exact ⟨this,by rw [this,List.length_take]; omega⟩
theorem kept_lt {l:List WayS} {P:WayS->Bool} (h:decide (idxW l P = -1)=false):∀ j,firstD l P + 1<=j->j<=l.length->(keptW l P j).length < j:=by
 intro j h1
 induction j with
 | zero=>omega
 | succ j ih =>
  intro h2
  by_cases e:j=firstD l P
  ·rw [e,(kept_first h).2]; omega
  ·have h3:=ih (by omega) (by omega)
   cases hp:P (l.getD j default) with
   | true=>rw [keptW_t (by omega) hp]; omega
   | false=>rw [keptW_f (by omega) hp,List.length_append]; simp; omega
theorem rowW_self (l:List WayS) (P:WayS->Bool) (j:Nat):rowW l P j j=l.getD j default:=by
 unfold rowW; rw [if_neg (by have:=keptW_len l P j; omega)]
theorem rowW_t {l:List WayS} {P:WayS->Bool} {j:Nat} (h:j < l.length) (hp:P (l.getD j default)=true) (q:Nat):rowW l P (j + 1) q=rowW l P j q:=by unfold rowW; rw [keptW_t h hp]
theorem rowW_f {l:List WayS} {P:WayS->Bool} {j:Nat} (h:j < l.length) (hp:P (l.getD j default)=false) (q:Nat):rowW l P (j + 1) q=if q=(keptW l P j).length then l.getD j default else rowW l P j q:=by
 unfold rowW
 rw [keptW_f h hp,List.length_append,List.length_singleton,Go.Ab.getD_append]
 by_cases h1:q < (keptW l P j).length
 ·rw [if_pos (by omega),if_pos h1,if_neg (by omega),if_pos h1]
 ·by_cases h2:q=(keptW l P j).length
  ·subst h2; rw [if_pos (by omega),if_neg h1,if_pos rfl,Nat.sub_self]; rfl
  ·rw [if_neg (by omega),if_neg h2,if_neg h1]
theorem rowW_first {l:List WayS} {P:WayS->Bool} (h:decide (idxW l P = -1)=false) (q:Nat):rowW l P (firstD l P + 1) q=l.getD q default:=by
 obtain ⟨h1,h2⟩:=kept_first h
 have h3:=(first_spec h).2.1
 unfold rowW
 rw [h2]
 split
 ·rename_i hq
  rw [h1,Go.Ab.getD_lt _ _ (by rw [List.length_take]; omega),List.getElem_take,Go.Ab.getD_lt _ _ (by omega)]
 ·rfl
theorem del_none {l:List WayS} {P:WayS->Bool} (h:decide (idxW l P = -1)=true):delW l P=l:=by
 have h0:idxW l P = -1:=of_decide_eq_true h
 rcases idxW_spec l P with ⟨_,h1⟩ | ⟨i,e,_⟩
 ·unfold delW; rw [List.filter_eq_self]; intro w hw; rw [h1 w hw]; rfl
 ·omega
def ofM (f:Nat) (m:Int) (w:WayS):Bool := !decide (w.frm.getD f 0=m)
def mixOf (r:Run) (l:List WayS) (f:Nat) (m:Int):Span:=hullOf (delW l (ofM f m)) (mixF r)
def seekTP (r:Run) (l:List WayS) (n:Nat):Int × Int:=seekTo (whereP l) (fun c m=>mixOf r l c m) n
def seekP (r:Run):Int × Int:=if openE r true=0 then seekOf (seekTP r (waysOf r) r.found.length) else (0,openE r true)
end Go.Sh
namespace Go.Sh
open Go Go.Ab Go.En
def endA (ws:List WayS) (P:WayS->Bool) (q:Nat):List AV:=if q < (delW ws P).length then cWay ((delW ws P).getD q default) else [nilv,.arr 6 3 (fun _=>[.arr 2 3 (fun _=>[iv 0,iv 0])])]
theorem endA_lt {ws:List WayS} {P:WayS->Bool} {q:Nat} (h:q < (delW ws P).length):endA ws P q=cWay ((delW ws P).getD q default):=if_pos h
theorem endA_ge {ws:List WayS} {P:WayS->Bool} {q:Nat} (h:¬ q < (delW ws P).length):endA ws P q = [nilv,.arr 6 3 (fun _=>[.arr 2 3 (fun _=>[iv 0,iv 0])])]:=if_neg h
end Go.Sh
namespace Go.Ab
open Go Go.RowKit Go.Proofs Go.Sh Go.En
def rowOf (ws:List WayS):OB := .vec 107 19 ws.length (fun i=>cWay (ws.getD i default))
def ou95 (ws:List WayS):OutSpec:={ args:=[aWays ws],pre:=0 < ws.length/\ws.length<=65536,res := .vec 0,hout:=[(0,rowOf ws)] }
def s95o (ws:List WayS) (id:Nat):CallSpec:=(ou95 ws).at [(0,id)]
def io123 (ws:List WayS) (P:WayS->Bool):IoSpec:={ args:=[.vec 0,.fn 0],pre:=0 < ws.length/\ws.length<=65536,fnok:=fnokOf Try.prog 0 (fun w:{ w:WayS // w ∈ ws }=>[.agg (cWay w.1)]) (fun w=>bv (P w.1)),hin:=[(0,rowOf ws)],res:=iv (idxW ws P),hout:=[(0,rowOf ws)] }
def s123 (b:Nat) (ws:List WayS) (P:WayS->Bool):CallSpec:=(io123 ws P).at [(0,b)]
def h123 (ws:List WayS) (P:WayS->Bool):Hint:={ X:=Nat,M:=fun i=>[(8,iv i)],I:=fun i=>i<=ws.length /\ ∀ j,j < i->P (ws.getD j default)=false,mu:=fun i=>ws.length - i,x0:=(0:Nat),nx:=fun i=>i + 1 }
def c123 (ws:List WayS) (P:WayS->Bool) (x:Nat):CallSpec:={ args:=[.agg (cWay (ws.getD x default))],res:=bv (P (ws.getD x default)) }
def io94 (ws:List WayS) (P:WayS->Bool):IoSpec:={ args:=[.vec 0,.fn 0],pre:=0 < ws.length/\ws.length<=65536,fnok:=fnokOf Try.prog 0 (fun w:{ w:WayS // w ∈ ws }=>[.agg (cWay w.1)]) (fun w=>bv (P w.1)),hin:=[(0,rowOf ws)],res:=aWays (delW ws P),hout:=[] }
def s94 (b:Nat) (ws:List WayS) (P:WayS->Bool):CallSpec:=(io94 ws P).at [(0,b)]
def h94 (ws:List WayS) (P:WayS->Bool):Hint:={ X:=Nat,M:=fun j=>[(5,iv (keptW ws P j).length),(6,iv j)],H:=fun j=>[(0,.vec 107 19 ws.length (fun q=>cWay (rowW ws P j q)))],I:=fun j=>firstD ws P + 1<=j/\j<=ws.length,mu:=fun j=>ws.length - j,x0:=firstD ws P + 1,nx:=fun j=>j + 1 }
def c94a (ws:List WayS) (P:WayS->Bool):CallSpec:=s123 0 ws P
def c94b (ws:List WayS) (P:WayS->Bool) (x:Nat):CallSpec:={ args:=[.agg (cWay (ws.getD x default))],res:=bv (P (ws.getD x default)) }
def s96 (w:WayS) (f:Nat) (m:Int):CallSpec:={ args:=[.agg (cWay w),.rp [iv f],.rp [iv m]],res:=bv (ofM f m w),pre:=f < w.frm.length }
end Go.Ab
namespace Go.Ab
open Go Go.RowKit Go.Proofs Go.Sh Go.En
theorem wo95 (ws:List WayS)
  (o0:0 < ws.length/\ws.length<=65536->0 + ws.length<=65536)
  (o1:0 < ws.length/\ws.length<=65536->0 + ws.length=ws.length)
  (l:List (Nat × Nat)) (hl:l.map (·.1)=(OutSpec.hout (ou95 ws)).map (·.1)) (hnd:(l.map (·.2)).Nodup) :
  Triple Try.prog 95 (OutSpec.at (ou95 ws) l):=by
 refine triple_out Try.func95 rfl Try.call95 T0_ok _ _ _ _ l rfl (Nat.le_of_ble_eq_true (by kernel_rfl)) hl hnd (by kernel_rfl) (by kernel_rfl) (by kernel_rfl) ?_
 intro hp C hC hE
 obtain ⟨P,w0,E0,av,hA⟩:=C
 subst hC
 refine swp_seq ?_
 refine sQ (kt:=[0]) (kh:=[]) (q:=True/\True) (st':=ASt.mk [(0,aWays ws)] [] 8) ⟨tv,tv⟩ ?_
 refine swp_seq (swp_seq ?_)
 refine sQ (kt:=[0,4]) (kh:=[]) (q:=True/\0 < ws.length/\True) (st':=ASt.mk [(0,aWays ws),(4,bv false)] [] 24) ⟨tv,hp.1,tv⟩ ?_
 refine swp_cond false (by kernel_rfl) (fun h=>by cases h) (fun _ => ?_)
 refine swp_skip (swp_seq ?_)
 refine sQ (kt:=[2]) (kh:=[40]) (q:=True/\True/\0 + ws.length<=65536/\True/\True) (st':=ASt.mk [(2,.vec 40)] [(40,.vec 107 19 (0 + ws.length) fun (i:Nat)=>cWay (ws.getD i default))] 56) ⟨tv,tv,(o0 hp),tv,tv⟩ ?_
 refine swp_ret ?_
 exact ret_o (ASt.mk [(2,AV.vec 0)] [(0,OB.vec 107 19 ws.length fun (i:Nat)=>cWay (ws.getD i default))] 100) (eQ hE [] [(0,.same 40)] [] [] ((zE (some (Src.same 40))/\True)/\((107=107/\19=19/\0 + ws.length=ws.length /\ ∀ (i0:Nat),i0 < 0 + ws.length->cWay (ws.getD i0 default)=cWay (ws.getD i0 default))/\True)/\T2) ⟨⟨rfl,tv⟩,⟨⟨rfl,rfl,(o1 hp),(fun i0=>(fun h1=>rfl))⟩,tv⟩,rfl,rfl⟩) ((True/\True)/\zE (AV.vec 0)/\zE (some (OB.vec 107 19 ws.length fun (i:Nat)=>cWay (ws.getD i default)))/\True) (by kernel_rfl) ⟨⟨tv,tv⟩,rfl,rfl,tv⟩
theorem t95o (ws:List WayS) (id:Nat):Triple Try.prog 95 (s95o ws id):=by
 refine wo95 ws ?_ ?_ [(0,id)] rfl (by simp)
 all_goals (first | ((repeat intro _) <;> (try simp only [v0,v1,v2,v3,v4,v5,v6,v7,v8,v9,inI,fits,Go.Sh.small] at *) <;> first | (exact rfl) | omega | exact vz | (simp_all; done) | (simp_all; omega)) | skip)
abbrev zio123_1 (ws:List WayS) (P:WayS->Bool):LoopAnn:=Hint.ann (h123 ws P) [(0,AV.vec 0),(1,AV.fn 0),(7,iv (↑(ws.length):Int))] [(0,OB.vec 107 19 ws.length fun (i:Nat)=>cWay (ws.getD i default))] 10033
theorem wio123 (ws:List WayS) (P:WayS->Bool)
  (o0:∀ (E0:Env),fnokOf Try.prog 0 (fun (w:{ w:WayS // w ∈ ws })=>[AV.agg (cWay (Subtype.val w))]) (fun (w:{ w:WayS // w ∈ ws })=>bv (P (Subtype.val w))) E0->0 < ws.length/\ws.length<=65536->0=(↑0:Int))
  (o1:∀ (E0:Env),fnokOf Try.prog 0 (fun (w:{ w:WayS // w ∈ ws })=>[AV.agg (cWay (Subtype.val w))]) (fun (w:{ w:WayS // w ∈ ws })=>bv (P (Subtype.val w))) E0->0 < ws.length/\ws.length<=65536->0<=ws.length /\ ∀ (j:Nat),j < 0->P (ws.getD j default)=false)
  (o2:∀ (E0:Env),fnokOf Try.prog 0 (fun (w:{ w:WayS // w ∈ ws })=>[AV.agg (cWay (Subtype.val w))]) (fun (w:{ w:WayS // w ∈ ws })=>bv (P (Subtype.val w))) E0->0 < ws.length/\ws.length<=65536 -> ∀ (x0:Nat),(x0<=ws.length /\ ∀ (j:Nat),j < x0->P (ws.getD j default)=false)->decide ((x0:Int) < (↑(ws.length):Int))=true->0<=(x0:Int))
  (o3:∀ (E0:Env),fnokOf Try.prog 0 (fun (w:{ w:WayS // w ∈ ws })=>[AV.agg (cWay (Subtype.val w))]) (fun (w:{ w:WayS // w ∈ ws })=>bv (P (Subtype.val w))) E0->0 < ws.length/\ws.length<=65536 -> ∀ (x0:Nat),(x0<=ws.length /\ ∀ (j:Nat),j < x0->P (ws.getD j default)=false)->decide ((x0:Int) < (↑(ws.length):Int))=true->(x0:Int) < (↑(ws.length):Int))
  (o4:∀ (E0:Env),fnokOf Try.prog 0 (fun (w:{ w:WayS // w ∈ ws })=>[AV.agg (cWay (Subtype.val w))]) (fun (w:{ w:WayS // w ∈ ws })=>bv (P (Subtype.val w))) E0->0 < ws.length/\ws.length<=65536 -> ∀ (x0:Nat),(x0<=ws.length /\ ∀ (j:Nat),j < x0->P (ws.getD j default)=false)->decide ((x0:Int) < (↑(ws.length):Int))=true->x0 < ws.length)
  (o5:∀ (E0:Env),fnokOf Try.prog 0 (fun (w:{ w:WayS // w ∈ ws })=>[AV.agg (cWay (Subtype.val w))]) (fun (w:{ w:WayS // w ∈ ws })=>bv (P (Subtype.val w))) E0->0 < ws.length/\ws.length<=65536 -> ∀ (x0:Nat),(x0<=ws.length /\ ∀ (j:Nat),j < x0->P (ws.getD j default)=false)->decide ((x0:Int) < (↑(ws.length):Int))=true -> ∀ (i4:Value),E0.4 0 i4->FnOK Try.prog E0 i4 [AV.agg (cWay (ws.getD x0 default))] (bv (P (ws.getD x0 default))))
  (o6:∀ (E0:Env),fnokOf Try.prog 0 (fun (w:{ w:WayS // w ∈ ws })=>[AV.agg (cWay (Subtype.val w))]) (fun (w:{ w:WayS // w ∈ ws })=>bv (P (Subtype.val w))) E0->0 < ws.length/\ws.length<=65536 -> ∀ (x0:Nat),(x0<=ws.length /\ ∀ (j:Nat),j < x0->P (ws.getD j default)=false)->decide ((x0:Int) < (↑(ws.length):Int))=true->P (ws.getD x0 default)=true->(x0:Int)=idxW ws P)
  (o7:∀ (E0:Env),fnokOf Try.prog 0 (fun (w:{ w:WayS // w ∈ ws })=>[AV.agg (cWay (Subtype.val w))]) (fun (w:{ w:WayS // w ∈ ws })=>bv (P (Subtype.val w))) E0->0 < ws.length/\ws.length<=65536 -> ∀ (x0:Nat),(x0<=ws.length /\ ∀ (j:Nat),j < x0->P (ws.getD j default)=false)->decide ((x0:Int) < (↑(ws.length):Int))=true->P (ws.getD x0 default)=false->inI ((x0:Int) + 1))
  (o8:∀ (E0:Env),fnokOf Try.prog 0 (fun (w:{ w:WayS // w ∈ ws })=>[AV.agg (cWay (Subtype.val w))]) (fun (w:{ w:WayS // w ∈ ws })=>bv (P (Subtype.val w))) E0->0 < ws.length/\ws.length<=65536 -> ∀ (x0:Nat),(x0<=ws.length /\ ∀ (j:Nat),j < x0->P (ws.getD j default)=false)->decide ((x0:Int) < (↑(ws.length):Int))=true->P (ws.getD x0 default)=false->(x0:Int) + 1=(↑(x0 + 1):Int))
  (o9:∀ (E0:Env),fnokOf Try.prog 0 (fun (w:{ w:WayS // w ∈ ws })=>[AV.agg (cWay (Subtype.val w))]) (fun (w:{ w:WayS // w ∈ ws })=>bv (P (Subtype.val w))) E0->0 < ws.length/\ws.length<=65536 -> ∀ (x0:Nat),(x0<=ws.length /\ ∀ (j:Nat),j < x0->P (ws.getD j default)=false)->decide ((x0:Int) < (↑(ws.length):Int))=true->P (ws.getD x0 default)=false->x0 + 1<=ws.length /\ ∀ (j:Nat),j < x0 + 1->P (ws.getD j default)=false)
  (o10:∀ (E0:Env),fnokOf Try.prog 0 (fun (w:{ w:WayS // w ∈ ws })=>[AV.agg (cWay (Subtype.val w))]) (fun (w:{ w:WayS // w ∈ ws })=>bv (P (Subtype.val w))) E0->0 < ws.length/\ws.length<=65536 -> ∀ (x0:Nat),(x0<=ws.length /\ ∀ (j:Nat),j < x0->P (ws.getD j default)=false)->decide ((x0:Int) < (↑(ws.length):Int))=true->P (ws.getD x0 default)=false->ws.length - (x0 + 1) < ws.length - x0)
  (o11:∀ (E0:Env),fnokOf Try.prog 0 (fun (w:{ w:WayS // w ∈ ws })=>[AV.agg (cWay (Subtype.val w))]) (fun (w:{ w:WayS // w ∈ ws })=>bv (P (Subtype.val w))) E0->0 < ws.length/\ws.length<=65536 -> ∀ (x0:Nat),(x0<=ws.length /\ ∀ (j:Nat),j < x0->P (ws.getD j default)=false)->decide ((x0:Int) < (↑(ws.length):Int))=false -> -1=idxW ws P)
  (l:List (Nat × Nat)) (hl:l.map (·.1) = [0]) (hnd:(l.map (·.2)).Nodup) :
  Triple Try.prog 123 (IoSpec.at (io123 ws P) l):=by
 refine triple_io Try.func123 rfl Try.call123 T0_ok (io123 ws P) 1 l (by rw [hl]; kernel_rfl) hnd (Nat.le_of_ble_eq_true (by kernel_rfl)) fnokOf_congr ?_
 intro hp C hC hfn hE
 obtain ⟨P,w0,E0,av,hA⟩:=C
 subst hC
 refine swp_seq ?_
 refine sQ (kt:=[0,1]) (kh:=[0]) (q:=True/\True) (st':=ASt.mk [(0,.vec 0),(1,.fn 0)] [(0,.vec 107 19 ws.length fun (i:Nat)=>cWay (ws.getD i default))] 9) ⟨tv,tv⟩ ?_
 refine swp_seq (swp_seq ?_)
 refine sQ (kt:=[0,1,7,8]) (kh:=[0]) (q:=tn 3) (st':=ASt.mk [(0,.vec 0),(1,.fn 0),(7,iv (↑(ws.length):Int)),(8,iv 0)] [(0,.vec 107 19 ws.length fun (i:Nat)=>cWay (ws.getD i default))] 33) (tp 3) ?_
 refine swp_block ?_
 refine swp_loopA (zio123_1 ws P) (ent_n 1 hE [] [(0,.same 0)] [1,7] [0] ((zE (some (Src.same 0))/\(zT (AV.fn 0))/\(zT (iv (↑(ws.length):Int)))/\(zN (iv 0) (iv (↑0:Int)))/\True)/\((zT (OB.vec 107 19 ws.length fun (i:Nat)=>cWay (ws.getD i default)))/\True)/\T2) (by kernel_rfl) (by kernel_rfl) ⟨⟨rfl,⟨rfl,rfl⟩,⟨rfl,rfl⟩,⟨(congrArg iv (o0 E0 hfn hp)),rfl⟩,tv⟩,⟨⟨rfl,rfl⟩,tv⟩,rfl,rfl⟩) (o1 E0 hfn hp) (fun (x0:Nat) hx0 => ?_)
 refine swp_seq ?_
 refine sQ (kt:=[0,1,7,8,9]) (kh:=[0]) (q:=True/\True) (st':=ASt.mk [(0,.vec 0),(1,.fn 0),(7,iv (↑(ws.length):Int)),(8,iv (x0:Int)),(9,bv (decide ((x0:Int) < (↑(ws.length):Int))))] [(0,.vec 107 19 ws.length fun (i:Nat)=>cWay (ws.getD i default))] 10041) ⟨tv,tv⟩ ?_
 refine swp_seq ?_
 refine swp_cond (decide ((x0:Int) < (↑(ws.length):Int))) (by kernel_rfl) (fun h1 => ?_) (fun h1 => ?_)
 ·refine swp_skip (swp_seq (swp_block (swp_seq ?_)))
  refine sQ (kt:=[0,1,7,8,5]) (kh:=[0]) (q:=tn 2) (st':=ASt.mk [(0,.vec 0),(1,.fn 0),(7,iv (↑(ws.length):Int)),(8,iv (x0:Int)),(5,iv (x0:Int))] [(0,.vec 107 19 ws.length fun (i:Nat)=>cWay (ws.getD i default))] 10057) (tp 2) ?_
  refine swp_seq ?_
  refine sC (cs:=[(5,CallSpec.eq (c123 ws P x0) [true])]) (kt:=[0,1,7,8,5,16]) (kh:=[0]) (q:=True/\True/\True/\(0<=(x0:Int)/\(x0:Int) < (↑(ws.length):Int))/\(x0 < ws.length/\True)/\((((1=1/\(ws.getD x0 default).frm.length=(ws.getD x0 default).frm.length /\ ∀ (i2:Nat),i2 < (ws.getD x0 default).frm.length -> [iv ((ws.getD x0 default).frm.getD i2 0)] = [iv ((ws.getD x0 default).frm.getD i2 0)])/\zE (AV.arr 6 3 fun (m:Nat)=>[AV.arr 2 3 fun (p:Nat)=>cSpan ((ws.getD x0 default).whn m p)])/\True)/\True) /\ ∀ (i4:Value),E0.4 0 i4->FnOK Try.prog E0 i4 [AV.agg (cWay (ws.getD x0 default))] (bv (P (ws.getD x0 default))))/\True) (st':=ASt.mk [(0,.vec 0),(1,.fn 0),(7,iv (↑(ws.length):Int)),(8,iv (x0:Int)),(5,iv (x0:Int)),(16,bv (P (ws.getD x0 default)))] [(0,.vec 107 19 ws.length fun (i:Nat)=>cWay (ws.getD i default))] 10105) ⟨tv,tv,tv,⟨(o2 E0 hfn hp x0 hx0 h1),(o3 E0 hfn hp x0 hx0 h1)⟩,⟨(o4 E0 hfn hp x0 hx0 h1),tv⟩,⟨⟨⟨⟨rfl,rfl,(fun i2=>(fun h3=>rfl))⟩,rfl,tv⟩,tv⟩,(fun i4=>(fun h5=>(o5 E0 hfn hp x0 hx0 h1 i4 h5)))⟩,tv⟩ ?_
  refine swp_cond (P (ws.getD x0 default)) (by kernel_rfl) (fun h6 => ?_) (fun h6 => ?_)
  ·refine swp_seq ?_
   refine sQ (kt:=[4]) (kh:=[0]) (q:=tn 2) (st':=ASt.mk [(4,iv (x0:Int))] [(0,.vec 107 19 ws.length fun (i:Nat)=>cWay (ws.getD i default))] 10121) (tp 2) ?_
   refine swp_ret ?_
   exact ret_o (ASt.mk [(4,iv (idxW ws P))] [(0,OB.vec 107 19 ws.length fun (i:Nat)=>cWay (ws.getD i default))] 100) (ent_n 1 hE [] [(0,.same 0)] [] [0] (((zN (iv (x0:Int)) (iv (idxW ws P)))/\True)/\((zT (OB.vec 107 19 ws.length fun (i:Nat)=>cWay (ws.getD i default)))/\True)/\T2) (by kernel_rfl) (by kernel_rfl) ⟨⟨⟨(congrArg iv (o6 E0 hfn hp x0 hx0 h1 h6)),rfl⟩,tv⟩,⟨⟨rfl,rfl⟩,tv⟩,rfl,rfl⟩) ((True/\True)/\zE (iv (idxW ws P))/\zE (some (OB.vec 107 19 ws.length fun (i:Nat)=>cWay (ws.getD i default)))/\True) (by kernel_rfl) ⟨⟨tv,tv⟩,rfl,rfl,tv⟩
  ·refine swp_skip ?_
   refine sQ (kt:=[0,1,7,8]) (kh:=[0]) (q:=inI ((x0:Int) + 1)/\True/\True) (st':=ASt.mk [(0,.vec 0),(1,.fn 0),(7,iv (↑(ws.length):Int)),(8,iv ((x0:Int) + 1))] [(0,.vec 107 19 ws.length fun (i:Nat)=>cWay (ws.getD i default))] 10121) ⟨(o7 E0 hfn hp x0 hx0 h1 h6),tv,tv⟩ ?_
   exact loop_next (zio123_1 ws P) x0 (ent_n 1 hE [] [(0,.same 0)] [1,7] [0] ((zE (some (Src.same 0))/\(zT (AV.fn 0))/\(zT (iv (↑(ws.length):Int)))/\(zN (iv ((x0:Int) + 1)) (iv (↑(x0 + 1):Int)))/\True)/\((zT (OB.vec 107 19 ws.length fun (i:Nat)=>cWay (ws.getD i default)))/\True)/\T2) (by kernel_rfl) (by kernel_rfl) ⟨⟨rfl,⟨rfl,rfl⟩,⟨rfl,rfl⟩,⟨(congrArg iv (o8 E0 hfn hp x0 hx0 h1 h6)),rfl⟩,tv⟩,⟨⟨rfl,rfl⟩,tv⟩,rfl,rfl⟩) (o9 E0 hfn hp x0 hx0 h1 h6) (o10 E0 hfn hp x0 hx0 h1 h6)
 ·refine swp_exit (swp_seq ?_)
  refine sQ (kt:=[4]) (kh:=[0]) (q:=True/\True) (st':=ASt.mk [(4,iv (-1))] [(0,.vec 107 19 ws.length fun (i:Nat)=>cWay (ws.getD i default))] 10049) ⟨tv,tv⟩ ?_
  refine swp_ret ?_
  exact ret_o (ASt.mk [(4,iv (idxW ws P))] [(0,OB.vec 107 19 ws.length fun (i:Nat)=>cWay (ws.getD i default))] 100) (ent_n 1 hE [] [(0,.same 0)] [] [0] (((zN (iv (-1)) (iv (idxW ws P)))/\True)/\((zT (OB.vec 107 19 ws.length fun (i:Nat)=>cWay (ws.getD i default)))/\True)/\T2) (by kernel_rfl) (by kernel_rfl) ⟨⟨⟨(congrArg iv (o11 E0 hfn hp x0 hx0 h1)),rfl⟩,tv⟩,⟨⟨rfl,rfl⟩,tv⟩,rfl,rfl⟩) ((True/\True)/\zE (iv (idxW ws P))/\zE (some (OB.vec 107 19 ws.length fun (i:Nat)=>cWay (ws.getD i default)))/\True) (by kernel_rfl) ⟨⟨tv,tv⟩,rfl,rfl,tv⟩
theorem t123 (b:Nat) (ws:List WayS) (P:WayS->Bool):Triple Try.prog 123 (s123 b ws P):=by
 refine wio123 ws P ?_ ?_ ?_ ?_ ?_ ?_ ?_ ?_ ?_ ?_ ?_ ?_ [(0,b)] rfl (by simp)
 case refine_6=>intro E0 hfn hp x hx hl u hu; exact hfn u hu ⟨_,getD_mem ws default (by simpa using hl)⟩
 case refine_7=>intro E0 hfn hp x hx hl h; simp only [decide_eq_true_eq] at hl; exact (idxW_found (by omega) hx.2 h).symm
 case refine_10=>intro E0 hfn hp x hx hl h; simp only [decide_eq_true_eq] at hl; exact ⟨by omega,lt_succ_cases hx.2 h⟩
 case refine_12=>intro E0 hfn hp x hx hl; simp only [decide_eq_false_iff_not] at hl; exact (idxW_none (fun j hj=>hx.2 j (by omega))).symm
 all_goals ((repeat intro _) <;> (try simp only [v0,v1,v2,v3,v4,v5,v6,v7,v8,v9,inI,fits,Go.Sh.small] at *) <;> first | (exact rfl) | omega | exact vz | (simp_all; done) | (simp_all; omega))
theorem w96 (w:WayS) (f:Nat) (m:Int)
 (o0:f < List.length (WayS.frm w)->0<=(↑f:Int))
 (o1:f < w.frm.length->(f:Int) < (↑(w.frm.length):Int))
 (o2:f < w.frm.length->(!decide (w.frm.getD f 0=m))=ofM f m w) :
  Triple Try.prog 96 (s96 w f m):=by
 refine triple_of Try.func96 rfl Try.call96 T0_ok _ rfl rfl rfl rfl (Nat.le_of_ble_eq_true (by kernel_rfl)) (fun _ _ _ _ h=>h) ?_
 intro hp C hC _ hE
 obtain ⟨P,w0,E0,av,hA⟩:=C
 subst hC
 refine swp_seq ?_
 refine sQ (kt:=[1,2,3]) (kh:=[0]) (q:=tn 2) (st':=ASt.mk [(1,.rp [iv (f:Int)]),(2,.rp [iv m]),(3,.ptr 0 [])] [(0,.cells 107 (cWay w))] 16) (tp 2) ?_
 refine swp_seq ?_
 refine sQ (kt:=[4]) (kh:=[]) (q:=True/\True/\True/\(0<=(f:Int)/\(f:Int) < (↑(w.frm.length):Int))/\tn 4) (st':=ASt.mk [(4,bv !decide (w.frm.getD f 0=m))] [] 80) ⟨tv,tv,tv,⟨(o0 hp),(o1 hp)⟩,tp 4⟩ ?_
 refine swp_ret ?_
 exact rQ [] ((True/\True)/\(zN (bv !decide (w.frm.getD f 0=m)) (bv (ofM f m w)))/\T3) ⟨⟨tv,tv⟩,⟨(congrArg bv (o2 hp)),rfl⟩,rfl,rfl,rfl⟩
theorem t96 (w:WayS) (f:Nat) (m:Int):Triple Try.prog 96 (s96 w f m):=by
 apply w96
 all_goals (first | ((repeat intro _) <;> (try simp only [v0,v1,v2,v3,v4,v5,v6,v7,v8,v9,inI,fits,Go.Sh.small] at *) <;> first | (exact rfl) | omega | exact vz | (simp_all; done) | (simp_all; omega)) | skip)
abbrev zio94_1 (ws:List WayS) (P:WayS->Bool):LoopAnn:=Hint.ann (h94 ws P) [(0,AV.vec 0),(1,AV.fn 0)] [] 10081
theorem wio94 (ws:List WayS) (P:WayS->Bool)
  (o0:∀ (E0:Env),fnokOf Try.prog 0 (fun (w:{ w:WayS // w ∈ ws })=>[AV.agg (cWay (Subtype.val w))]) (fun (w:{ w:WayS // w ∈ ws })=>bv (P (Subtype.val w))) E0->0 < ws.length/\ws.length<=65536 -> ∀ (i0:Env) (i1:List Value),Env.le E0 i0->i1.length=2->(∀ (k:Nat),Rel i0 true (List.getD [AV.vec 0,AV.fn 0] k AV.any) (i1.getD k undef))->fnokOf Try.prog 0 (fun (w:{ w:WayS // w ∈ ws })=>[AV.agg (cWay (Subtype.val w))]) (fun (w:{ w:WayS // w ∈ ws })=>bv (P (Subtype.val w))) (Env.mk i0.1 i0.2 i0.3 fun (k:Nat) (u:Value) => ∃ (i:Nat),[AV.vec 0,AV.fn 0][i]? = some (AV.fn k)/\i1[i]? = some u))
  (o1:∀ (E0:Env),fnokOf Try.prog 0 (fun (w:{ w:WayS // w ∈ ws })=>[AV.agg (cWay (Subtype.val w))]) (fun (w:{ w:WayS // w ∈ ws })=>bv (P (Subtype.val w))) E0->0 < ws.length/\ws.length<=65536->decide (idxW ws P = -1)=true->ws.length=(delW ws P).length)
  (o2:∀ (E0:Env),fnokOf Try.prog 0 (fun (w:{ w:WayS // w ∈ ws })=>[AV.agg (cWay (Subtype.val w))]) (fun (w:{ w:WayS // w ∈ ws })=>bv (P (Subtype.val w))) E0->0 < ws.length/\ws.length<=65536->decide (idxW ws P = -1)=true -> ∀ (i6:Nat),i6 < (delW ws P).length->cWay (ws.getD i6 default)=cWay ((delW ws P).getD i6 default))
  (o3:∀ (E0:Env),fnokOf Try.prog 0 (fun (w:{ w:WayS // w ∈ ws })=>[AV.agg (cWay (Subtype.val w))]) (fun (w:{ w:WayS // w ∈ ws })=>bv (P (Subtype.val w))) E0->0 < ws.length/\ws.length<=65536->decide (idxW ws P = -1)=false->inI (idxW ws P + 1))
  (o4:∀ (E0:Env),fnokOf Try.prog 0 (fun (w:{ w:WayS // w ∈ ws })=>[AV.agg (cWay (Subtype.val w))]) (fun (w:{ w:WayS // w ∈ ws })=>bv (P (Subtype.val w))) E0->0 < ws.length/\ws.length<=65536->decide (idxW ws P = -1)=false->idxW ws P=(↑((keptW ws P (Nat.succ (Nat.add (firstD ws P) 0))).length):Int))
  (o5:∀ (E0:Env),fnokOf Try.prog 0 (fun (w:{ w:WayS // w ∈ ws })=>[AV.agg (cWay (Subtype.val w))]) (fun (w:{ w:WayS // w ∈ ws })=>bv (P (Subtype.val w))) E0->0 < ws.length/\ws.length<=65536->decide (idxW ws P = -1)=false->idxW ws P + 1=(↑(Nat.succ (Nat.add (firstD ws P) 0)):Int))
  (o6:∀ (E0:Env),fnokOf Try.prog 0 (fun (w:{ w:WayS // w ∈ ws })=>[AV.agg (cWay (Subtype.val w))]) (fun (w:{ w:WayS // w ∈ ws })=>bv (P (Subtype.val w))) E0->0 < ws.length/\ws.length<=65536->decide (idxW ws P = -1)=false -> ∀ (i9:Nat),i9 < ws.length->cWay (ws.getD i9 default)=cWay (rowW ws P (Nat.succ (Nat.add (firstD ws P) 0)) i9))
  (o7:∀ (E0:Env),fnokOf Try.prog 0 (fun (w:{ w:WayS // w ∈ ws })=>[AV.agg (cWay (Subtype.val w))]) (fun (w:{ w:WayS // w ∈ ws })=>bv (P (Subtype.val w))) E0->0 < ws.length/\ws.length<=65536->decide (idxW ws P = -1)=false->firstD ws P + 1<=Nat.succ (Nat.add (firstD ws P) 0)/\Nat.succ (Nat.add (firstD ws P) 0)<=ws.length)
  (o8:∀ (E0:Env),fnokOf Try.prog 0 (fun (w:{ w:WayS // w ∈ ws })=>[AV.agg (cWay (Subtype.val w))]) (fun (w:{ w:WayS // w ∈ ws })=>bv (P (Subtype.val w))) E0->0 < ws.length/\ws.length<=65536->decide (idxW ws P = -1)=false -> ∀ (x8:Nat),firstD ws P + 1<=x8/\x8<=ws.length->decide ((x8:Int) < (↑(ws.length):Int))=true->0<=(x8:Int))
  (o9:∀ (E0:Env),fnokOf Try.prog 0 (fun (w:{ w:WayS // w ∈ ws })=>[AV.agg (cWay (Subtype.val w))]) (fun (w:{ w:WayS // w ∈ ws })=>bv (P (Subtype.val w))) E0->0 < ws.length/\ws.length<=65536->decide (idxW ws P = -1)=false -> ∀ (x8:Nat),firstD ws P + 1<=x8/\x8<=ws.length->decide ((x8:Int) < (↑(ws.length):Int))=true->(x8:Int) < (↑(ws.length):Int))
  (o10:∀ (E0:Env),fnokOf Try.prog 0 (fun (w:{ w:WayS // w ∈ ws })=>[AV.agg (cWay (Subtype.val w))]) (fun (w:{ w:WayS // w ∈ ws })=>bv (P (Subtype.val w))) E0->0 < ws.length/\ws.length<=65536->decide (idxW ws P = -1)=false -> ∀ (x8:Nat),firstD ws P + 1<=x8/\x8<=ws.length->decide ((x8:Int) < (↑(ws.length):Int))=true->x8 < ws.length)
  (o11:∀ (E0:Env),fnokOf Try.prog 0 (fun (w:{ w:WayS // w ∈ ws })=>[AV.agg (cWay (Subtype.val w))]) (fun (w:{ w:WayS // w ∈ ws })=>bv (P (Subtype.val w))) E0->0 < ws.length/\ws.length<=65536->decide (idxW ws P = -1)=false -> ∀ (x8:Nat),firstD ws P + 1<=x8/\x8<=ws.length->decide ((x8:Int) < (↑(ws.length):Int))=true->(rowW ws P x8 x8).frm.length=(ws.getD x8 default).frm.length)
  (o12:∀ (E0:Env),fnokOf Try.prog 0 (fun (w:{ w:WayS // w ∈ ws })=>[AV.agg (cWay (Subtype.val w))]) (fun (w:{ w:WayS // w ∈ ws })=>bv (P (Subtype.val w))) E0->0 < ws.length/\ws.length<=65536->decide (idxW ws P = -1)=false -> ∀ (x8:Nat),firstD ws P + 1<=x8/\x8<=ws.length->decide ((x8:Int) < (↑(ws.length):Int))=true -> ∀ (i12:Nat),i12 < (ws.getD x8 default).frm.length -> [iv ((rowW ws P x8 x8).frm.getD i12 0)] = [iv ((ws.getD x8 default).frm.getD i12 0)])
  (o13:∀ (E0:Env),fnokOf Try.prog 0 (fun (w:{ w:WayS // w ∈ ws })=>[AV.agg (cWay (Subtype.val w))]) (fun (w:{ w:WayS // w ∈ ws })=>bv (P (Subtype.val w))) E0->0 < ws.length/\ws.length<=65536->decide (idxW ws P = -1)=false -> ∀ (x8:Nat),firstD ws P + 1<=x8/\x8<=ws.length->decide ((x8:Int) < (↑(ws.length):Int))=true->(AV.arr 6 3 fun (m:Nat)=>[AV.arr 2 3 fun (p:Nat)=>cSpan ((rowW ws P x8 x8).whn m p)])=AV.arr 6 3 fun (m:Nat)=>[AV.arr 2 3 fun (p:Nat)=>cSpan ((ws.getD x8 default).whn m p)])
  (o14:∀ (E0:Env),fnokOf Try.prog 0 (fun (w:{ w:WayS // w ∈ ws })=>[AV.agg (cWay (Subtype.val w))]) (fun (w:{ w:WayS // w ∈ ws })=>bv (P (Subtype.val w))) E0->0 < ws.length/\ws.length<=65536->decide (idxW ws P = -1)=false -> ∀ (x8:Nat),firstD ws P + 1<=x8/\x8<=ws.length->decide ((x8:Int) < (↑(ws.length):Int))=true -> ∀ (i14:Value),E0.4 0 i14->FnOK Try.prog E0 i14 [AV.agg (cWay (ws.getD x8 default))] (bv (P (ws.getD x8 default))))
  (o15:∀ (E0:Env),fnokOf Try.prog 0 (fun (w:{ w:WayS // w ∈ ws })=>[AV.agg (cWay (Subtype.val w))]) (fun (w:{ w:WayS // w ∈ ws })=>bv (P (Subtype.val w))) E0->0 < ws.length/\ws.length<=65536->decide (idxW ws P = -1)=false -> ∀ (x8:Nat),firstD ws P + 1<=x8/\x8<=ws.length->decide ((x8:Int) < (↑(ws.length):Int))=true->(!P (ws.getD x8 default))=true->0<=(↑((keptW ws P x8).length):Int))
  (o16:∀ (E0:Env),fnokOf Try.prog 0 (fun (w:{ w:WayS // w ∈ ws })=>[AV.agg (cWay (Subtype.val w))]) (fun (w:{ w:WayS // w ∈ ws })=>bv (P (Subtype.val w))) E0->0 < ws.length/\ws.length<=65536->decide (idxW ws P = -1)=false -> ∀ (x8:Nat),firstD ws P + 1<=x8/\x8<=ws.length->decide ((x8:Int) < (↑(ws.length):Int))=true->(!P (ws.getD x8 default))=true->(↑((keptW ws P x8).length):Int) < (↑(ws.length):Int))
  (o17:∀ (E0:Env),fnokOf Try.prog 0 (fun (w:{ w:WayS // w ∈ ws })=>[AV.agg (cWay (Subtype.val w))]) (fun (w:{ w:WayS // w ∈ ws })=>bv (P (Subtype.val w))) E0->0 < ws.length/\ws.length<=65536->decide (idxW ws P = -1)=false -> ∀ (x8:Nat),firstD ws P + 1<=x8/\x8<=ws.length->decide ((x8:Int) < (↑(ws.length):Int))=true->(!P (ws.getD x8 default))=true->(keptW ws P x8).length < ws.length)
  (o18:∀ (E0:Env),fnokOf Try.prog 0 (fun (w:{ w:WayS // w ∈ ws })=>[AV.agg (cWay (Subtype.val w))]) (fun (w:{ w:WayS // w ∈ ws })=>bv (P (Subtype.val w))) E0->0 < ws.length/\ws.length<=65536->decide (idxW ws P = -1)=false -> ∀ (x8:Nat),firstD ws P + 1<=x8/\x8<=ws.length->decide ((x8:Int) < (↑(ws.length):Int))=true->(!P (ws.getD x8 default))=true->inI ((↑((keptW ws P x8).length):Int) + 1))
  (o19:∀ (E0:Env),fnokOf Try.prog 0 (fun (w:{ w:WayS // w ∈ ws })=>[AV.agg (cWay (Subtype.val w))]) (fun (w:{ w:WayS // w ∈ ws })=>bv (P (Subtype.val w))) E0->0 < ws.length/\ws.length<=65536->decide (idxW ws P = -1)=false -> ∀ (x8:Nat),firstD ws P + 1<=x8/\x8<=ws.length->decide ((x8:Int) < (↑(ws.length):Int))=true->(!P (ws.getD x8 default))=true->inI ((x8:Int) + 1))
  (o20:∀ (E0:Env),fnokOf Try.prog 0 (fun (w:{ w:WayS // w ∈ ws })=>[AV.agg (cWay (Subtype.val w))]) (fun (w:{ w:WayS // w ∈ ws })=>bv (P (Subtype.val w))) E0->0 < ws.length/\ws.length<=65536->decide (idxW ws P = -1)=false -> ∀ (x8:Nat),firstD ws P + 1<=x8/\x8<=ws.length->decide ((x8:Int) < (↑(ws.length):Int))=true->(!P (ws.getD x8 default))=true->(↑((keptW ws P x8).length):Int) + 1=(↑((keptW ws P (x8 + 1)).length):Int))
  (o21:∀ (E0:Env),fnokOf Try.prog 0 (fun (w:{ w:WayS // w ∈ ws })=>[AV.agg (cWay (Subtype.val w))]) (fun (w:{ w:WayS // w ∈ ws })=>bv (P (Subtype.val w))) E0->0 < ws.length/\ws.length<=65536->decide (idxW ws P = -1)=false -> ∀ (x8:Nat),firstD ws P + 1<=x8/\x8<=ws.length->decide ((x8:Int) < (↑(ws.length):Int))=true->(!P (ws.getD x8 default))=true->(x8:Int) + 1=(↑(x8 + 1):Int))
  (o22:∀ (E0:Env),fnokOf Try.prog 0 (fun (w:{ w:WayS // w ∈ ws })=>[AV.agg (cWay (Subtype.val w))]) (fun (w:{ w:WayS // w ∈ ws })=>bv (P (Subtype.val w))) E0->0 < ws.length/\ws.length<=65536->decide (idxW ws P = -1)=false -> ∀ (x8:Nat),firstD ws P + 1<=x8/\x8<=ws.length->decide ((x8:Int) < (↑(ws.length):Int))=true->(!P (ws.getD x8 default))=true -> ∀ (i17:Nat),i17 < ws.length->Decidable.rec (fun (h:¬i17=(keptW ws P x8).length)=>cWay (rowW ws P x8 i17)) (fun (h:i17=(keptW ws P x8).length)=>[AV.sl 1 (rowW ws P x8 x8).frm.length fun (i:Nat)=>[iv ((rowW ws P x8 x8).frm.getD i 0)],AV.arr 6 3 fun (m:Nat)=>[AV.arr 2 3 fun (p:Nat)=>cSpan ((rowW ws P x8 x8).whn m p)]] ++ []) (instDecidableEqNat i17 (keptW ws P x8).length)=cWay (rowW ws P (x8 + 1) i17))
  (o23:∀ (E0:Env),fnokOf Try.prog 0 (fun (w:{ w:WayS // w ∈ ws })=>[AV.agg (cWay (Subtype.val w))]) (fun (w:{ w:WayS // w ∈ ws })=>bv (P (Subtype.val w))) E0->0 < ws.length/\ws.length<=65536->decide (idxW ws P = -1)=false -> ∀ (x8:Nat),firstD ws P + 1<=x8/\x8<=ws.length->decide ((x8:Int) < (↑(ws.length):Int))=true->(!P (ws.getD x8 default))=true->firstD ws P + 1<=x8 + 1/\x8 + 1<=ws.length)
  (o24:∀ (E0:Env),fnokOf Try.prog 0 (fun (w:{ w:WayS // w ∈ ws })=>[AV.agg (cWay (Subtype.val w))]) (fun (w:{ w:WayS // w ∈ ws })=>bv (P (Subtype.val w))) E0->0 < ws.length/\ws.length<=65536->decide (idxW ws P = -1)=false -> ∀ (x8:Nat),firstD ws P + 1<=x8/\x8<=ws.length->decide ((x8:Int) < (↑(ws.length):Int))=true->(!P (ws.getD x8 default))=true->ws.length - (x8 + 1) < ws.length - x8)
  (o25:∀ (E0:Env),fnokOf Try.prog 0 (fun (w:{ w:WayS // w ∈ ws })=>[AV.agg (cWay (Subtype.val w))]) (fun (w:{ w:WayS // w ∈ ws })=>bv (P (Subtype.val w))) E0->0 < ws.length/\ws.length<=65536->decide (idxW ws P = -1)=false -> ∀ (x8:Nat),firstD ws P + 1<=x8/\x8<=ws.length->decide ((x8:Int) < (↑(ws.length):Int))=true->(!P (ws.getD x8 default))=false->inI ((x8:Int) + 1))
  (o26:∀ (E0:Env),fnokOf Try.prog 0 (fun (w:{ w:WayS // w ∈ ws })=>[AV.agg (cWay (Subtype.val w))]) (fun (w:{ w:WayS // w ∈ ws })=>bv (P (Subtype.val w))) E0->0 < ws.length/\ws.length<=65536->decide (idxW ws P = -1)=false -> ∀ (x8:Nat),firstD ws P + 1<=x8/\x8<=ws.length->decide ((x8:Int) < (↑(ws.length):Int))=true->(!P (ws.getD x8 default))=false->(↑((keptW ws P x8).length):Int)=(↑((keptW ws P (x8 + 1)).length):Int))
  (o27:∀ (E0:Env),fnokOf Try.prog 0 (fun (w:{ w:WayS // w ∈ ws })=>[AV.agg (cWay (Subtype.val w))]) (fun (w:{ w:WayS // w ∈ ws })=>bv (P (Subtype.val w))) E0->0 < ws.length/\ws.length<=65536->decide (idxW ws P = -1)=false -> ∀ (x8:Nat),firstD ws P + 1<=x8/\x8<=ws.length->decide ((x8:Int) < (↑(ws.length):Int))=true->(!P (ws.getD x8 default))=false->(x8:Int) + 1=(↑(x8 + 1):Int))
  (o28:∀ (E0:Env),fnokOf Try.prog 0 (fun (w:{ w:WayS // w ∈ ws })=>[AV.agg (cWay (Subtype.val w))]) (fun (w:{ w:WayS // w ∈ ws })=>bv (P (Subtype.val w))) E0->0 < ws.length/\ws.length<=65536->decide (idxW ws P = -1)=false -> ∀ (x8:Nat),firstD ws P + 1<=x8/\x8<=ws.length->decide ((x8:Int) < (↑(ws.length):Int))=true->(!P (ws.getD x8 default))=false -> ∀ (i19:Nat),i19 < ws.length->cWay (rowW ws P x8 i19)=cWay (rowW ws P (x8 + 1) i19))
  (o29:∀ (E0:Env),fnokOf Try.prog 0 (fun (w:{ w:WayS // w ∈ ws })=>[AV.agg (cWay (Subtype.val w))]) (fun (w:{ w:WayS // w ∈ ws })=>bv (P (Subtype.val w))) E0->0 < ws.length/\ws.length<=65536->decide (idxW ws P = -1)=false -> ∀ (x8:Nat),firstD ws P + 1<=x8/\x8<=ws.length->decide ((x8:Int) < (↑(ws.length):Int))=true->(!P (ws.getD x8 default))=false->firstD ws P + 1<=x8 + 1/\x8 + 1<=ws.length)
  (o30:∀ (E0:Env),fnokOf Try.prog 0 (fun (w:{ w:WayS // w ∈ ws })=>[AV.agg (cWay (Subtype.val w))]) (fun (w:{ w:WayS // w ∈ ws })=>bv (P (Subtype.val w))) E0->0 < ws.length/\ws.length<=65536->decide (idxW ws P = -1)=false -> ∀ (x8:Nat),firstD ws P + 1<=x8/\x8<=ws.length->decide ((x8:Int) < (↑(ws.length):Int))=true->(!P (ws.getD x8 default))=false->ws.length - (x8 + 1) < ws.length - x8)
  (o31:∀ (E0:Env),fnokOf Try.prog 0 (fun (w:{ w:WayS // w ∈ ws })=>[AV.agg (cWay (Subtype.val w))]) (fun (w:{ w:WayS // w ∈ ws })=>bv (P (Subtype.val w))) E0->0 < ws.length/\ws.length<=65536->decide (idxW ws P = -1)=false -> ∀ (x8:Nat),firstD ws P + 1<=x8/\x8<=ws.length->decide ((x8:Int) < (↑(ws.length):Int))=false->0<=(↑((keptW ws P x8).length):Int))
  (o32:∀ (E0:Env),fnokOf Try.prog 0 (fun (w:{ w:WayS // w ∈ ws })=>[AV.agg (cWay (Subtype.val w))]) (fun (w:{ w:WayS // w ∈ ws })=>bv (P (Subtype.val w))) E0->0 < ws.length/\ws.length<=65536->decide (idxW ws P = -1)=false -> ∀ (x8:Nat),firstD ws P + 1<=x8/\x8<=ws.length->decide ((x8:Int) < (↑(ws.length):Int))=false->(↑((keptW ws P x8).length):Int) < (↑(ws.length):Int))
  (o33:∀ (E0:Env),fnokOf Try.prog 0 (fun (w:{ w:WayS // w ∈ ws })=>[AV.agg (cWay (Subtype.val w))]) (fun (w:{ w:WayS // w ∈ ws })=>bv (P (Subtype.val w))) E0->0 < ws.length/\ws.length<=65536->decide (idxW ws P = -1)=false -> ∀ (x8:Nat),firstD ws P + 1<=x8/\x8<=ws.length->decide ((x8:Int) < (↑(ws.length):Int))=false->(keptW ws P x8).length + (ws.length - (keptW ws P x8).length)=ws.length)
  (o34:∀ (E0:Env),fnokOf Try.prog 0 (fun (w:{ w:WayS // w ∈ ws })=>[AV.agg (cWay (Subtype.val w))]) (fun (w:{ w:WayS // w ∈ ws })=>bv (P (Subtype.val w))) E0->0 < ws.length/\ws.length<=65536->decide (idxW ws P = -1)=false -> ∀ (x8:Nat),firstD ws P + 1<=x8/\x8<=ws.length->decide ((x8:Int) < (↑(ws.length):Int))=false->0 < ws.length - (keptW ws P x8).length)
  (o35:∀ (E0:Env),fnokOf Try.prog 0 (fun (w:{ w:WayS // w ∈ ws })=>[AV.agg (cWay (Subtype.val w))]) (fun (w:{ w:WayS // w ∈ ws })=>bv (P (Subtype.val w))) E0->0 < ws.length/\ws.length<=65536->decide (idxW ws P = -1)=false -> ∀ (x8:Nat),firstD ws P + 1<=x8/\x8<=ws.length->decide ((x8:Int) < (↑(ws.length):Int))=false -> ∀ (i21:Nat),i21 < ws.length->Decidable.rec (fun (h:¬i21 < (keptW ws P x8).length)=>[nilv,AV.arr 6 3 fun (x:Nat)=>[AV.arr 2 3 fun (x:Nat)=>[iv 0,iv 0]]]) (fun (h:i21 < (keptW ws P x8).length)=>cWay (rowW ws P x8 i21)) (Nat.decLt i21 (keptW ws P x8).length)=endA ws P i21)
  (o36:∀ (E0:Env),fnokOf Try.prog 0 (fun (w:{ w:WayS // w ∈ ws })=>[AV.agg (cWay (Subtype.val w))]) (fun (w:{ w:WayS // w ∈ ws })=>bv (P (Subtype.val w))) E0->0 < ws.length/\ws.length<=65536->decide (idxW ws P = -1)=false -> ∀ (x8:Nat),firstD ws P + 1<=x8/\x8<=ws.length->decide ((x8:Int) < (↑(ws.length):Int))=false->0<=(↑((keptW ws P x8).length):Int))
  (o37:∀ (E0:Env),fnokOf Try.prog 0 (fun (w:{ w:WayS // w ∈ ws })=>[AV.agg (cWay (Subtype.val w))]) (fun (w:{ w:WayS // w ∈ ws })=>bv (P (Subtype.val w))) E0->0 < ws.length/\ws.length<=65536->decide (idxW ws P = -1)=false -> ∀ (x8:Nat),firstD ws P + 1<=x8/\x8<=ws.length->decide ((x8:Int) < (↑(ws.length):Int))=false->(↑((keptW ws P x8).length):Int)<=(↑(ws.length):Int))
  (o38:∀ (E0:Env),fnokOf Try.prog 0 (fun (w:{ w:WayS // w ∈ ws })=>[AV.agg (cWay (Subtype.val w))]) (fun (w:{ w:WayS // w ∈ ws })=>bv (P (Subtype.val w))) E0->0 < ws.length/\ws.length<=65536->decide (idxW ws P = -1)=false -> ∀ (x8:Nat),firstD ws P + 1<=x8/\x8<=ws.length->decide ((x8:Int) < (↑(ws.length):Int))=false->(keptW ws P x8).length=(delW ws P).length)
  (o39:∀ (E0:Env),fnokOf Try.prog 0 (fun (w:{ w:WayS // w ∈ ws })=>[AV.agg (cWay (Subtype.val w))]) (fun (w:{ w:WayS // w ∈ ws })=>bv (P (Subtype.val w))) E0->0 < ws.length/\ws.length<=65536->decide (idxW ws P = -1)=false -> ∀ (x8:Nat),firstD ws P + 1<=x8/\x8<=ws.length->decide ((x8:Int) < (↑(ws.length):Int))=false -> ∀ (i25:Nat),i25 < (delW ws P).length->endA ws P i25=cWay ((delW ws P).getD i25 default))
  (l:List (Nat × Nat)) (hl:l.map (·.1) = [0]) (hnd:(l.map (·.2)).Nodup) :
  Triple Try.prog 94 (IoSpec.at (io94 ws P) l):=by
 refine triple_io Try.func94 rfl Try.call94 T0_ok (io94 ws P) 1 l (by rw [hl]; kernel_rfl) hnd (Nat.le_of_ble_eq_true (by kernel_rfl)) fnokOf_congr ?_
 intro hp C hC hfn hE
 obtain ⟨P,w0,E0,av,hA⟩:=C
 subst hC
 refine swp_seq ?_
 refine sQ (kt:=[0,1]) (kh:=[0]) (q:=True/\True) (st':=ASt.mk [(0,.vec 0),(1,.fn 0)] [(0,.vec 107 19 ws.length fun (i:Nat)=>cWay (ws.getD i default))] 9) ⟨tv,tv⟩ ?_
 refine swp_seq ?_
 refine sC (cs:=[(2,CallSpec.eq (c94a ws P) [true,true])]) (kt:=[0,1,5]) (kh:=[0]) (q:=True/\True/\((zE (AV.vec 0)/\zE (AV.fn 0)/\True)/\Triple Try.prog 123 (c94a ws P)/\(0 < ws.length/\ws.length<=65536)/\(zE (some (OB.vec 107 19 ws.length fun (i:Nat)=>cWay (ws.getD i default)))/\True) /\ ∀ (i0:Env) (i1:List Value),Env.le E0 i0->i1.length=2->(∀ (k:Nat),Rel i0 true (List.getD [AV.vec 0,AV.fn 0] k AV.any) (i1.getD k undef))->fnokOf Try.prog 0 (fun (w:{ w:WayS // w ∈ ws })=>[AV.agg (cWay (Subtype.val w))]) (fun (w:{ w:WayS // w ∈ ws })=>bv (P (Subtype.val w))) (Env.mk i0.1 i0.2 i0.3 fun (k:Nat) (u:Value) => ∃ (i:Nat),[AV.vec 0,AV.fn 0][i]? = some (AV.fn k)/\i1[i]? = some u))/\True/\True) (st':=ASt.mk [(0,.vec 0),(1,.fn 0),(5,iv (idxW ws P))] [(0,.vec 107 19 ws.length fun (i:Nat)=>cWay (ws.getD i default))] 41) ⟨tv,tv,⟨⟨rfl,rfl,tv⟩,(t123 _ _ _),⟨hp.1,hp.2⟩,⟨rfl,tv⟩,(fun i0=>(fun i1=>(fun h2=>(fun h3=>(fun h4=>(o0 E0 hfn hp i0 i1 h2 h3 h4))))))⟩,tv,tv⟩ ?_
 refine swp_seq (swp_seq ?_)
 refine sQ (kt:=[0,1,5,12]) (kh:=[0]) (q:=tn 2) (st':=ASt.mk [(0,.vec 0),(1,.fn 0),(5,iv (idxW ws P)),(12,bv (decide (idxW ws P = -1)))] [(0,.vec 107 19 ws.length fun (i:Nat)=>cWay (ws.getD i default))] 57) (tp 2) ?_
 refine swp_cond (decide (idxW ws P = -1)) (by kernel_rfl) (fun h5 => ?_) (fun h5 => ?_)
 ·refine swp_seq ?_
  refine sQ (kt:=[4]) (kh:=[0]) (q:=tn 2) (st':=ASt.mk [(4,.vec 0)] [(0,.vec 107 19 ws.length fun (i:Nat)=>cWay (ws.getD i default))] 73) (tp 2) ?_
  refine swp_ret ?_
  exact ret_o (ASt.mk [(4,aWays (delW ws P))] [] 100) (ent_n 1 hE [0] [] [] [] (((19=19/\ws.length=(delW ws P).length /\ ∀ (i6:Nat),i6 < (delW ws P).length->cWay (ws.getD i6 default)=cWay ((delW ws P).getD i6 default))/\True)/\True/\T2) (by kernel_rfl) (by kernel_rfl) ⟨⟨⟨rfl,(o1 E0 hfn hp h5),(fun i6=>(fun h7=>(o2 E0 hfn hp h5 i6 h7)))⟩,tv⟩,tv,rfl,rfl⟩) ((True/\True)/\zE (aWays (delW ws P))/\True) (by kernel_rfl) ⟨⟨tv,tv⟩,rfl,tv⟩
 ·refine swp_skip (swp_seq (swp_seq ?_))
  refine sQ (kt:=[0,1,5,6]) (kh:=[0]) (q:=True/\inI (idxW ws P + 1)/\True/\True) (st':=ASt.mk [(0,.vec 0),(1,.fn 0),(5,iv (idxW ws P)),(6,iv (idxW ws P + 1))] [(0,.vec 107 19 ws.length fun (i:Nat)=>cWay (ws.getD i default))] 81) ⟨tv,(o3 E0 hfn hp h5),tv,tv⟩ ?_
  refine swp_block ?_
  refine swp_loopA (zio94_1 ws P) (ent_n 1 hE [] [(0,.same 0)] [1] [] ((zE (some (Src.same 0))/\(zT (AV.fn 0))/\(zN (iv (idxW ws P)) (iv (↑((keptW ws P (Nat.succ (Nat.add (firstD ws P) 0))).length):Int)))/\(zN (iv (idxW ws P + 1)) (iv (↑(Nat.succ (Nat.add (firstD ws P) 0)):Int)))/\True)/\((107=107/\19=19/\ws.length=ws.length /\ ∀ (i9:Nat),i9 < ws.length->cWay (ws.getD i9 default)=cWay (rowW ws P (Nat.succ (Nat.add (firstD ws P) 0)) i9))/\True)/\T2) (by kernel_rfl) (by kernel_rfl) ⟨⟨rfl,⟨rfl,rfl⟩,⟨(congrArg iv (o4 E0 hfn hp h5)),rfl⟩,⟨(congrArg iv (o5 E0 hfn hp h5)),rfl⟩,tv⟩,⟨⟨rfl,rfl,rfl,(fun i9=>(fun h10=>(o6 E0 hfn hp h5 i9 h10)))⟩,tv⟩,rfl,rfl⟩) (o7 E0 hfn hp h5) (fun (x8:Nat) hx8 => ?_)
  refine swp_seq (swp_seq ?_)
  refine sQ (kt:=[0,1,5,6,19]) (kh:=[0]) (q:=tn 4) (st':=ASt.mk [(0,.vec 0),(1,.fn 0),(5,iv (↑((keptW ws P x8).length):Int)),(6,iv (x8:Int)),(19,bv (decide ((x8:Int) < (↑(ws.length):Int))))] [(0,.vec 107 19 ws.length fun (q:Nat)=>cWay (rowW ws P x8 q))] 10113) (tp 4) ?_
  refine swp_cond (decide ((x8:Int) < (↑(ws.length):Int))) (by kernel_rfl) (fun h11 => ?_) (fun h11 => ?_)
  ·refine swp_skip (swp_seq (swp_block (swp_seq ?_)))
   refine sQ (kt:=[0,1,5,6,7]) (kh:=[0,10145]) (q:=True/\True/\(0<=(x8:Int)/\(x8:Int) < (↑(ws.length):Int))/\(x8 < ws.length/\True)/\tn 2) (st':=ASt.mk [(0,.vec 0),(1,.fn 0),(5,iv (↑((keptW ws P x8).length):Int)),(6,iv (x8:Int)),(7,.ptr 10145 [])] [(0,.vec 107 19 ws.length fun (q:Nat)=>cWay (rowW ws P x8 q)),(10145,.cells 107 (cWay (rowW ws P x8 x8)))] 10161) ⟨tv,tv,⟨(o8 E0 hfn hp h5 x8 hx8 h11),(o9 E0 hfn hp h5 x8 hx8 h11)⟩,⟨(o10 E0 hfn hp h5 x8 hx8 h11),tv⟩,tp 2⟩ ?_
   refine swp_seq ?_
   refine sC (cs:=[(2,CallSpec.eq (c94b ws P x8) [false])]) (kt:=[0,1,5,6,7,29]) (kh:=[0,10145]) (q:=True/\True/\((((1=1/\(rowW ws P x8 x8).frm.length=(ws.getD x8 default).frm.length /\ ∀ (i12:Nat),i12 < (ws.getD x8 default).frm.length -> [iv ((rowW ws P x8 x8).frm.getD i12 0)] = [iv ((ws.getD x8 default).frm.getD i12 0)])/\((AV.arr 6 3 fun (m:Nat)=>[AV.arr 2 3 fun (p:Nat)=>cSpan ((rowW ws P x8 x8).whn m p)])=AV.arr 6 3 fun (m:Nat)=>[AV.arr 2 3 fun (p:Nat)=>cSpan ((ws.getD x8 default).whn m p)])/\True)/\True) /\ ∀ (i14:Value),E0.4 0 i14->FnOK Try.prog E0 i14 [AV.agg (cWay (ws.getD x8 default))] (bv (P (ws.getD x8 default))))/\True/\True) (st':=ASt.mk [(0,.vec 0),(1,.fn 0),(5,iv (↑((keptW ws P x8).length):Int)),(6,iv (x8:Int)),(7,.ptr 10145 []),(29,bv !P (ws.getD x8 default))] [(0,.vec 107 19 ws.length fun (q:Nat)=>cWay (rowW ws P x8 q)),(10145,.cells 107 (cWay (rowW ws P x8 x8)))] 10193) ⟨tv,tv,⟨⟨⟨⟨rfl,(o11 E0 hfn hp h5 x8 hx8 h11),(fun i12=>(fun h13=>(o12 E0 hfn hp h5 x8 hx8 h11 i12 h13)))⟩,(o13 E0 hfn hp h5 x8 hx8 h11),tv⟩,tv⟩,(fun i14=>(fun h15=>(o14 E0 hfn hp h5 x8 hx8 h11 i14 h15)))⟩,tv,tv⟩ ?_
   refine swp_cond (!P (ws.getD x8 default)) (by kernel_rfl) (fun h16 => ?_) (fun h16 => ?_)
   ·refine swp_seq ?_
    refine sQ (kt:=[0,1,5,6]) (kh:=[0]) (q:=True/\True/\True/\(0<=(↑((keptW ws P x8).length):Int)/\(↑((keptW ws P x8).length):Int) < (↑(ws.length):Int))/\((keptW ws P x8).length < ws.length/\True)/\True) (st':=ASt.mk [(0,.vec 0),(1,.fn 0),(5,iv (↑((keptW ws P x8).length):Int)),(6,iv (x8:Int))] [(0,.vec 107 19 ws.length fun (j:Nat)=>Decidable.rec (fun (h:¬j=(keptW ws P x8).length)=>cWay (rowW ws P x8 j)) (fun (h:j=(keptW ws P x8).length)=>[.sl 1 (rowW ws P x8 x8).frm.length fun (i:Nat)=>[iv ((rowW ws P x8 x8).frm.getD i 0)],.arr 6 3 fun (m:Nat)=>[.arr 2 3 fun (p:Nat)=>cSpan ((rowW ws P x8 x8).whn m p)]] ++ []) (instDecidableEqNat j (keptW ws P x8).length))] 10233) ⟨tv,tv,tv,⟨(o15 E0 hfn hp h5 x8 hx8 h11 h16),(o16 E0 hfn hp h5 x8 hx8 h11 h16)⟩,⟨(o17 E0 hfn hp h5 x8 hx8 h11 h16),tv⟩,tv⟩ ?_
    refine sQ (kt:=[0,1,5,6]) (kh:=[0]) (q:=True/\inI ((↑((keptW ws P x8).length):Int) + 1)/\True/\True) (st':=ASt.mk [(0,.vec 0),(1,.fn 0),(5,iv ((↑((keptW ws P x8).length):Int) + 1)),(6,iv (x8:Int))] [(0,.vec 107 19 ws.length fun (j:Nat)=>Decidable.rec (fun (h:¬j=(keptW ws P x8).length)=>cWay (rowW ws P x8 j)) (fun (h:j=(keptW ws P x8).length)=>[.sl 1 (rowW ws P x8 x8).frm.length fun (i:Nat)=>[iv ((rowW ws P x8 x8).frm.getD i 0)],.arr 6 3 fun (m:Nat)=>[.arr 2 3 fun (p:Nat)=>cSpan ((rowW ws P x8 x8).whn m p)]] ++ []) (instDecidableEqNat j (keptW ws P x8).length))] 10257) ⟨tv,(o18 E0 hfn hp h5 x8 hx8 h11 h16),tv,tv⟩ ?_
    refine sQ (kt:=[0,1,5,6]) (kh:=[0]) (q:=True/\inI ((x8:Int) + 1)/\True/\True) (st':=ASt.mk [(0,.vec 0),(1,.fn 0),(5,iv ((↑((keptW ws P x8).length):Int) + 1)),(6,iv ((x8:Int) + 1))] [(0,.vec 107 19 ws.length fun (j:Nat)=>Decidable.rec (fun (h:¬j=(keptW ws P x8).length)=>cWay (rowW ws P x8 j)) (fun (h:j=(keptW ws P x8).length)=>[.sl 1 (rowW ws P x8 x8).frm.length fun (i:Nat)=>[iv ((rowW ws P x8 x8).frm.getD i 0)],.arr 6 3 fun (m:Nat)=>[.arr 2 3 fun (p:Nat)=>cSpan ((rowW ws P x8 x8).whn m p)]] ++ []) (instDecidableEqNat j (keptW ws P x8).length))] 10281) ⟨tv,(o19 E0 hfn hp h5 x8 hx8 h11 h16),tv,tv⟩ ?_
    exact loop_next (zio94_1 ws P) x8 (ent_n 1 hE [] [(0,.same 0)] [1] [] ((zE (some (Src.same 0))/\(zT (AV.fn 0))/\(zN (iv ((↑((keptW ws P x8).length):Int) + 1)) (iv (↑((keptW ws P (x8 + 1)).length):Int)))/\(zN (iv ((x8:Int) + 1)) (iv (↑(x8 + 1):Int)))/\True)/\((107=107/\19=19/\ws.length=ws.length /\ ∀ (i17:Nat),i17 < ws.length->Decidable.rec (fun (h:¬i17=(keptW ws P x8).length)=>cWay (rowW ws P x8 i17)) (fun (h:i17=(keptW ws P x8).length)=>[AV.sl 1 (rowW ws P x8 x8).frm.length fun (i:Nat)=>[iv ((rowW ws P x8 x8).frm.getD i 0)],AV.arr 6 3 fun (m:Nat)=>[AV.arr 2 3 fun (p:Nat)=>cSpan ((rowW ws P x8 x8).whn m p)]] ++ []) (instDecidableEqNat i17 (keptW ws P x8).length)=cWay (rowW ws P (x8 + 1) i17))/\True)/\T2) (by kernel_rfl) (by kernel_rfl) ⟨⟨rfl,⟨rfl,rfl⟩,⟨(congrArg iv (o20 E0 hfn hp h5 x8 hx8 h11 h16)),rfl⟩,⟨(congrArg iv (o21 E0 hfn hp h5 x8 hx8 h11 h16)),rfl⟩,tv⟩,⟨⟨rfl,rfl,rfl,(fun i17=>(fun h18=>(o22 E0 hfn hp h5 x8 hx8 h11 h16 i17 h18)))⟩,tv⟩,rfl,rfl⟩) (o23 E0 hfn hp h5 x8 hx8 h11 h16) (o24 E0 hfn hp h5 x8 hx8 h11 h16)
   ·refine swp_skip ?_
    refine sQ (kt:=[0,1,5,6]) (kh:=[0]) (q:=True/\inI ((x8:Int) + 1)/\True/\True) (st':=ASt.mk [(0,.vec 0),(1,.fn 0),(5,iv (↑((keptW ws P x8).length):Int)),(6,iv ((x8:Int) + 1))] [(0,.vec 107 19 ws.length fun (q:Nat)=>cWay (rowW ws P x8 q))] 10217) ⟨tv,(o25 E0 hfn hp h5 x8 hx8 h11 h16),tv,tv⟩ ?_
    exact loop_next (zio94_1 ws P) x8 (ent_n 1 hE [] [(0,.same 0)] [1] [] ((zE (some (Src.same 0))/\(zT (AV.fn 0))/\(zN (iv (↑((keptW ws P x8).length):Int)) (iv (↑((keptW ws P (x8 + 1)).length):Int)))/\(zN (iv ((x8:Int) + 1)) (iv (↑(x8 + 1):Int)))/\True)/\((107=107/\19=19/\ws.length=ws.length /\ ∀ (i19:Nat),i19 < ws.length->cWay (rowW ws P x8 i19)=cWay (rowW ws P (x8 + 1) i19))/\True)/\T2) (by kernel_rfl) (by kernel_rfl) ⟨⟨rfl,⟨rfl,rfl⟩,⟨(congrArg iv (o26 E0 hfn hp h5 x8 hx8 h11 h16)),rfl⟩,⟨(congrArg iv (o27 E0 hfn hp h5 x8 hx8 h11 h16)),rfl⟩,tv⟩,⟨⟨rfl,rfl,rfl,(fun i19=>(fun h20=>(o28 E0 hfn hp h5 x8 hx8 h11 h16 i19 h20)))⟩,tv⟩,rfl,rfl⟩) (o29 E0 hfn hp h5 x8 hx8 h11 h16) (o30 E0 hfn hp h5 x8 hx8 h11 h16)
  ·refine swp_exit (swp_seq ?_)
   refine sQ (kt:=[0,5]) (kh:=[0]) (q:=True/\True/\(0<=(↑((keptW ws P x8).length):Int)/\(↑((keptW ws P x8).length):Int) < (↑(ws.length):Int))/\((keptW ws P x8).length + (ws.length - (keptW ws P x8).length)=ws.length/\0 < ws.length - (keptW ws P x8).length)/\True) (st':=ASt.mk [(0,.vec 0),(5,iv (↑((keptW ws P x8).length):Int))] [(0,.vec 107 19 ws.length fun (j:Nat)=>Decidable.rec (fun (h:¬j < (keptW ws P x8).length)=>[nilv,.arr 6 3 fun (x:Nat)=>[.arr 2 3 fun (x:Nat)=>[iv 0,iv 0]]]) (fun (h:j < (keptW ws P x8).length)=>cWay (rowW ws P x8 j)) (Nat.decLt j (keptW ws P x8).length))] 10145) ⟨tv,tv,⟨(o31 E0 hfn hp h5 x8 hx8 h11),(o32 E0 hfn hp h5 x8 hx8 h11)⟩,⟨(o33 E0 hfn hp h5 x8 hx8 h11),(o34 E0 hfn hp h5 x8 hx8 h11)⟩,tv⟩ ?_
   refine swp_seq ?_
   refine swp_ent (ent_n (st2:=ASt.mk [(0,AV.vec 0),(5,iv (↑((keptW ws P x8).length):Int))] [(0,OB.vec 107 19 ws.length fun (q:Nat)=>endA ws P q)] 10145) 1 hE [] [(0,.same 0)] [5] [] ((zE (some (Src.same 0))/\(zT (iv (↑((keptW ws P x8).length):Int)))/\True)/\((107=107/\19=19/\ws.length=ws.length /\ ∀ (i21:Nat),i21 < ws.length->Decidable.rec (fun (h:¬i21 < (keptW ws P x8).length)=>[nilv,AV.arr 6 3 fun (x:Nat)=>[AV.arr 2 3 fun (x:Nat)=>[iv 0,iv 0]]]) (fun (h:i21 < (keptW ws P x8).length)=>cWay (rowW ws P x8 i21)) (Nat.decLt i21 (keptW ws P x8).length)=endA ws P i21)/\True)/\T2) (by kernel_rfl) (by kernel_rfl) ⟨⟨rfl,⟨rfl,rfl⟩,tv⟩,⟨⟨rfl,rfl,rfl,(fun i21=>(fun h22=>(o35 E0 hfn hp h5 x8 hx8 h11 i21 h22)))⟩,tv⟩,rfl,rfl⟩) ?_
   refine swp_ent (ent_n (st2:=ASt.mk [(0,AV.sl 19 ws.length fun (q:Nat)=>endA ws P q),(5,iv (↑((keptW ws P x8).length):Int))] [] 10145) 1 hE [0] [] [5] [] (((19=19/\ws.length=ws.length /\ ∀ (i23:Nat),i23 < ws.length->endA ws P i23=endA ws P i23)/\(zT (iv (↑((keptW ws P x8).length):Int)))/\True)/\True/\T2) (by kernel_rfl) (by kernel_rfl) ⟨⟨⟨rfl,rfl,(fun i23=>(fun h24=>rfl))⟩,⟨rfl,rfl⟩,tv⟩,tv,rfl,rfl⟩) ?_
   refine sQ (kt:=[4]) (kh:=[]) (q:=True/\True/\(0<=(↑((keptW ws P x8).length):Int)/\(↑((keptW ws P x8).length):Int)<=(↑(ws.length):Int))/\True/\True) (st':=ASt.mk [(4,.sl 19 (keptW ws P x8).length fun (q:Nat)=>endA ws P q)] [] 10177) ⟨tv,tv,⟨(o36 E0 hfn hp h5 x8 hx8 h11),(o37 E0 hfn hp h5 x8 hx8 h11)⟩,tv,tv⟩ ?_
   refine swp_ret ?_
   exact ret_o (ASt.mk [(4,aWays (delW ws P))] [] 100) (ent_n 1 hE [] [] [] [] (((19=19/\(keptW ws P x8).length=(delW ws P).length /\ ∀ (i25:Nat),i25 < (delW ws P).length->endA ws P i25=cWay ((delW ws P).getD i25 default))/\True)/\True/\T2) (by kernel_rfl) (by kernel_rfl) ⟨⟨⟨rfl,(o38 E0 hfn hp h5 x8 hx8 h11),(fun i25=>(fun h26=>(o39 E0 hfn hp h5 x8 hx8 h11 i25 h26)))⟩,tv⟩,tv,rfl,rfl⟩) ((True/\True)/\zE (aWays (delW ws P))/\True) (by kernel_rfl) ⟨⟨tv,tv⟩,rfl,tv⟩
theorem rec_ei {α:Type} {i j:Nat} {a:¬ i=j->α} {b:i=j->α} {c:α} (h1:∀ h,a h=c) (h2:∀ h,b h=c):(Decidable.rec a b (instDecidableEqNat i j):α)=c:=by
 cases instDecidableEqNat i j with
 | isTrue h=>exact h2 h
 | isFalse h=>exact h1 h
theorem rec_lt {α:Type} {i j:Nat} {a:¬ i < j->α} {b:i < j->α} {c:α} (h1:∀ h,a h=c) (h2:∀ h,b h=c):(Decidable.rec a b (Nat.decLt i j):α)=c:=by
 cases Nat.decLt i j with
 | isTrue h=>exact h2 h
 | isFalse h=>exact h1 h
theorem t94 (b:Nat) (ws:List WayS) (P:WayS->Bool):Triple Try.prog 94 (s94 b ws P):=by
 refine wio94 ws P ?o0 ?o1 ?o2 ?o3 ?o4 ?o5 ?o6 ?o7 ?o8 ?o9 ?o10 ?o11 ?o12 ?o13 ?o14 ?o15 ?o16 ?o17 ?o18 ?o19 ?o20 ?o21 ?o22 ?o23 ?o24 ?o25 ?o26 ?o27 ?o28 ?o29 ?o30 ?o31 ?o32 ?o33 ?o34 ?o35 ?o36 ?o37 ?o38 ?o39 [(0,b)] rfl (by simp)
 all_goals (first | ((repeat intro _) <;> (try simp only [v0,v1,v2,v3,v4,v5,v6,v7,v8,v9,inI,fits,Go.Sh.small] at *) <;> first | (exact rfl) | omega | exact vz | (simp_all; done) | (simp_all; omega)) | skip)
 case o0 =>
  intro E0 hfn hp E us le hl hr
  refine fnok_pass 1 (fun j' h => ?_) rfl hfn E us le hl hr
  match j',h with
  | 0,h=>cases h
  | 1,_=>rfl
  | n + 2,h=>simp at h
 case o1=>intro E0 _ hp h; rw [del_none h]
 case o2=>intro E0 _ hp h i _; rw [del_none h]
 all_goals (intro E0 hfn hp h; obtain ⟨f1,f2,f3,f4⟩:=first_spec h)
 case o3=>exact ⟨by omega,by omega⟩
 case o4=>show idxW ws P=((keptW ws P (firstD ws P + 1)).length:Int); rw [(kept_first h).2]; exact f1
 case o5=>show idxW ws P + 1=((firstD ws P + 1:Nat):Int); omega
 case o6=>intro i _; show _=cWay (rowW ws P (firstD ws P + 1) i); rw [rowW_first h]
 case o7=>show firstD ws P + 1<=firstD ws P + 1/\firstD ws P + 1<=ws.length; omega
 all_goals (intro x hx hl; have hk:=kept_lt h x hx.1 hx.2; simp only [decide_eq_true_eq,decide_eq_false_iff_not] at hl)
 case o11=>rw [rowW_self]
 case o12=>intro i _; rw [rowW_self]
 case o13=>rw [rowW_self]
 case o14=>intro u hu; exact hfn u hu ⟨_,getD_mem ws default (by omega)⟩
 case o16 | o17=>intro _; omega
 case o18=>intro _; exact ⟨by omega,by omega⟩
 case o20=>intro hn; rw [keptW_f (by omega) (by simpa using hn),List.length_append]; rfl
 case o22 =>
  intro hn i hi
  rw [rowW_f (by omega) (by simpa using hn)]
  exact rec_ei (fun h=>by rw [if_neg h]) (fun h=>by rw [if_pos h,rowW_self]; rfl)
 case o26=>intro hn; rw [keptW_t (by omega) (by simpa using hn)]
 case o28=>intro hn i hi; rw [rowW_t (by omega) (by simpa using hn)]
 all_goals (have e:x=ws.length:=by omega)
 case o32 | o33 | o34 | o37=>omega
 case o35 =>
  have hkf:keptW ws P x=delW ws P:=keptW_full (by omega)
  intro i hi
  rw [hkf]
  refine rec_lt (fun h=>(endA_ge h).symm) (fun h => ?_)
  rw [endA_lt h]
  unfold rowW
  rw [hkf,if_pos h]
 case o38=>rw [keptW_full (by omega)]
 case o39=>intro i hi; exact endA_lt hi
end Go.Ab
namespace Go.Sh
theorem map_getD {l:List WayS} {i:Nat} (h:i < l.length):(l.map (·.frm)).getD i []=(l.getD i default).frm:=by
 rw [Go.Ab.getD_lt _ _ (by simpa using h),Go.Ab.getD_lt _ _ h,List.getElem_map]
theorem hull_eq {l:List WayS} {F:WayS->Span} {G:List Int->Span} (hl:0 < l.length) (h:∀ w,w ∈ l->F w=G w.frm):hullOf l F=rhull (l.map (·.frm)) G:=by
 have:∀ n,n<=l.length->hullTo l F n=rhullTo (l.map (·.frm)) G n:=by
  intro n
  induction n with
  | zero =>
   intro _
   show F (l.getD 0 default)=G ((l.map (·.frm)).getD 0 [])
   rw [map_getD hl]
   exact h _ (Go.Ab.getD_mem _ default hl)
  | succ n ih =>
   intro hn
   rw [hullTo_succ,rhullTo_succ,ih (by omega),map_getD (by omega),h _ (Go.Ab.getD_mem _ default (by omega))]
 rw [hullOf,rhull,this _ (Nat.le_refl _),List.length_map]
theorem ways_pos {r:Run} {is:Bool} (h:rfE r is=0):0 < (waysOf r).length:=by
 obtain ⟨ok,_⟩:=rf_zero h
 rw [ways_len ok]; exact (rfE_zero h).2.2
theorem sorted_ext:∀ (l m:List Int),l.Pairwise (· < ·)->m.Pairwise (· < ·)->(∀ x,x ∈ l ↔ x ∈ m)->l=m:=by
 intro l
 induction l with
 | nil =>
  intro m _ _ h
  cases m with
  | nil=>rfl
  | cons y m=>exact absurd ((h y).2 (List.mem_cons_self ..)) (by simp)
 | cons x l ih =>
  intro m hl hm h
  cases m with
  | nil=>exact absurd ((h x).1 (List.mem_cons_self ..)) (by simp)
  | cons y m =>
   obtain ⟨l1,l2⟩:=List.pairwise_cons.1 hl
   obtain ⟨m1,m2⟩:=List.pairwise_cons.1 hm
   have e:x=y:=by
    rcases List.mem_cons.1 ((h x).1 (List.mem_cons_self ..)) with e | e
    ·exact e
    ·rcases List.mem_cons.1 ((h y).2 (List.mem_cons_self ..)) with e2 | e2
     ·exact e2.symm
     ·have:=m1 x e; have:=l1 y e2; omega
   subst e
   rw [ih m l2 m2 (fun z => ?_)]
   constructor
   ·intro hz
    rcases List.mem_cons.1 ((h z).1 (List.mem_cons_of_mem _ hz)) with e | e
    ·have:=l1 z hz; omega
    ·exact e
   ·intro hz
    rcases List.mem_cons.1 ((h z).2 (List.mem_cons_of_mem _ hz)) with e | e
    ·have:=m1 z hz; omega
    ·exact e
theorem get_bang (zs:List Int) (j:Nat):zs.toArray[j]! = zs.getD j 0:=by simp [List.getD]
theorem compact_sorted {zs:List Int} (h:zs.Pairwise (· <= ·)):(compactI zs).Pairwise (· < ·) /\ ∀ x,x ∈ compactI zs ↔ x ∈ zs:=by
 have hle:∀ i j,i<=j->j < zs.length->zs.getD i 0<=zs.getD j 0:=by
  intro i j hij hj
  by_cases e:i=j
  ·subst e; exact Int.le_refl _
  ·rw [Go.Ab.getD_lt _ _ hj,Go.Ab.getD_lt _ _ (by omega)]
   exact List.pairwise_iff_getElem.1 h i j (by omega) hj (by omega)
 have key:∀ m,m<=zs.length->(Go.Lib.compactUpTo zs.toArray m).Pairwise (· < ·) /\ ∀ x,x ∈ Go.Lib.compactUpTo zs.toArray m ↔ ∃ j,j < m/\zs.getD j 0=x:=by
  intro m
  induction m with
  | zero=>intro _; exact ⟨List.Pairwise.nil,fun x=>by simp [Go.Lib.compactUpTo]⟩
  | succ m ih =>
   intro hm
   obtain ⟨h1,h2⟩:=ih (by omega)
   rw [Go.Lib.compactUpTo_succ]
   by_cases hk:Go.Lib.keeps zs.toArray m=true
   ·rw [if_pos hk,get_bang]
    refine ⟨?_,fun x => ?_⟩
    ·rw [List.pairwise_append]
     refine ⟨h1,List.pairwise_singleton _ _,fun a ha b hb => ?_⟩
     rw [List.mem_singleton] at hb
     subst hb
     obtain ⟨j,hj,rfl⟩:=(h2 a).1 ha
     have a1:=hle j (m - 1) (by omega) (by omega)
     have a2:=hle (m - 1) m (by omega) (by omega)
     have a3:zs.getD m 0 ≠ zs.getD (m - 1) 0:=by
      unfold Go.Lib.keeps at hk
      rw [get_bang,get_bang] at hk
      intro e
      rw [e] at hk
      have:m ≠ 0:=by omega
      simp [this] at hk
     omega
    ·rw [List.mem_append,List.mem_singleton,h2]
     constructor
     ·rintro (⟨j,hj,e⟩ | e)
      ·exact ⟨j,by omega,e⟩
      ·exact ⟨m,by omega,e.symm⟩
     ·rintro ⟨j,hj,e⟩
      by_cases ej:j=m
      ·subst ej; exact .inr e.symm
      ·exact .inl ⟨j,by omega,e⟩
   ·rw [if_neg hk,List.append_nil]
    refine ⟨h1,fun x => ?_⟩
    rw [h2]
    have hm0:m ≠ 0:=by
     intro e; subst e
     exact hk (Go.Lib.keeps_lt_one _ 0 (by omega))
    have he:zs.getD m 0=zs.getD (m - 1) 0:=by
     apply Classical.byContradiction
     intro hne
     apply hk
     unfold Go.Lib.keeps
     rw [get_bang,get_bang]
     exact decide_eq_true (.inr hne)
    constructor
    ·rintro ⟨j,hj,e⟩; exact ⟨j,by omega,e⟩
    ·rintro ⟨j,hj,e⟩
     by_cases ej:j=m
     ·subst ej; exact ⟨j - 1,by omega,by rw [← he]; exact e⟩
     ·exact ⟨j,by omega,e⟩
 obtain ⟨h1,h2⟩:=key zs.length (Nat.le_refl _)
 refine ⟨h1,fun x => ?_⟩
 show x ∈ Go.Lib.compactUpTo zs.toArray zs.length ↔ _
 rw [h2]
 constructor
 ·rintro ⟨j,hj,rfl⟩; exact Go.Ab.getD_mem _ 0 hj
 ·intro hx
  obtain ⟨j,hj,e⟩:=List.getElem_of_mem hx
  exact ⟨j,hj,by rw [Go.Ab.getD_lt _ _ hj]; exact e⟩
theorem sortI_sorted (l:List Int):(sortI l).Pairwise (· <= ·):=by
 have:=List.pairwise_mergeSort (le:=fun x y:Int=>decide (x<=y)) (fun a b c h1 h2=>by simp only [decide_eq_true_eq] at *; omega) (fun a b=>by simp only [Bool.or_eq_true,decide_eq_true_eq]; omega) l
 simpa [sortI] using this
theorem sortI_mem {l:List Int} {x:Int}:x ∈ sortI l ↔ x ∈ l:=(List.mergeSort_perm l _).mem_iff
theorem where_ways {r:Run} (ok:Ok r) {f:Nat} (hf:f < r.found.length):whereP (waysOf r) f=whereOf r (fromsOf r) f:=by
 obtain ⟨h1,h2⟩:=compact_sorted (sortI_sorted (wf (waysOf r) f))
 refine sorted_ext _ _ h1 ?_ fun x => ?_
 ·unfold whereOf whTo
  rw [List.pairwise_map]
  exact ((List.pairwise_lt_range).filter _).imp (fun h=>by omega)
 ·show x ∈ compactI (sortI (wf (waysOf r) f)) ↔ _
  rw [h2,sortI_mem]
  unfold whereOf whTo wf anyF
  rw [List.take_length,← ways_froms ok]
  simp only [List.mem_map,List.mem_filter,List.mem_range,List.any_eq_true,decide_eq_true_eq]
  constructor
  ·rintro ⟨w,hw,rfl⟩
   have:=way_mach ok hw hf
   refine ⟨(w.frm.getD f 0).toNat,⟨by omega,w.frm,⟨w,hw,rfl⟩,by omega⟩,by omega⟩
  ·rintro ⟨m,⟨_,y,⟨w,hw,rfl⟩,e⟩,rfl⟩
   exact ⟨w,hw,e⟩
end Go.Sh
namespace Go.Sh
theorem sumTo_congr {r:Run} {f g:Nat->Span}:∀ n,n<=r.machines.length->(∀ m,m < n->f m=g m)->sumTo r f n=sumTo r g n:=by
 intro n
 induction n with
 | zero=>intro _ _; rfl
 | succ n ih =>
  intro h1 h2
  rw [sumTo_succ,sumTo_succ,ih (by omega) (fun m hm=>h2 m (by omega)),h2 n (by omega)]
theorem old_eq (r:Run) (p:Int):oldS r p=oldR r p:=by
 unfold oldS oldR
 rw [open_eq]
 split
 ·rename_i h0
  obtain ⟨ok,his⟩:=rf_zero h0
  obtain ⟨a1,a2,_⟩:=plateIs_ok ok his
  rw [← ways_froms ok]
  exact hull_eq (ways_pos h0) fun w hw=>sumTo_congr _ (Nat.le_refl _) fun m hm=>(way_ok ok hw).2 m hm p.toNat (by omega)
 ·rfl
theorem spread_minutes {g h:Nat->Span} {n:Nat} (hn:1<=n/\n<=3) (he:∀ p,p < n->g p=h p) (hs:∀ p,p < n->(h p).lo<=(h p).hi):spread g n=minutes h n:=by
 have h0:=he 0 (by omega)
 have s0:=hs 0 (by omega)
 have:n=1 ∨ n=2 ∨ n=3:=by omega
 rcases this with rfl | rfl | rfl
 ·simp only [spread,minutes,sprTo,minTo,minIn,sprIn,List.range_succ,List.range_zero,List.nil_append,List.foldl_cons,List.foldl_nil,if_true,h0]
  congr 1 <;> omega
 ·have h1:=he 1 (by omega)
  have s1:=hs 1 (by omega)
  simp only [spread,minutes,sprTo,minTo,minIn,sprIn,List.range_succ,List.range_zero,List.nil_append,List.cons_append,List.foldl_cons,List.foldl_nil,if_true,h0,h1]
  simp only [show ¬ (0:Nat)=1 by omega,show ¬ (1:Nat)=0 by omega,if_false]
  congr 1 <;> omega
 ·have h1:=he 1 (by omega)
  have s1:=hs 1 (by omega)
  have h2:=he 2 (by omega)
  have s2:=hs 2 (by omega)
  simp only [spread,minutes,sprTo,minTo,minIn,sprIn,List.range_succ,List.range_zero,List.nil_append,List.cons_append,List.foldl_cons,List.foldl_nil,if_true,h0,h1,h2]
  simp only [show ¬ (0:Nat)=1 by omega,show ¬ (1:Nat)=0 by omega,show ¬ (0:Nat)=2 by omega,show ¬ (2:Nat)=0 by omega,show ¬ (1:Nat)=2 by omega,show ¬ (2:Nat)=1 by omega,if_false]
  congr 1 <;> omega
theorem way_spread {r:Run} (ok:Ok r) {w:WayS} (hw:w ∈ waysOf r) {m:Nat} (hm:m < r.machines.length):spread (w.whn m) r.plates.toNat=minutes (spanOf r w.frm m) r.plates.toNat:=by
 have hp:=ok.plates
 have h:=way_ok ok hw
 exact spread_minutes (by omega) (fun p hlt=>h.2 m hm p (by omega)) (fun p hlt=>(canBe_iff ok).1 h.1 m hm p (by omega))
theorem way_mix {r:Run} (ok:Ok r) {w:WayS} (hw:w ∈ waysOf r):mixF r w=mixL r w.frm:=sumTo_congr _ (Nat.le_refl _) fun _ hm=>way_spread ok hw hm
theorem all_hull {r:Run} {l:List (List Int)}:∀ n,n + 1<=l.length->allTo r l 0 (-1) (n + 1)=(true,rhullTo l (mixL r) (n + 1)):=by
 have hk:∀ x,skipL 0 (-1) x=false:=fun x=>rfl
 intro n
 induction n with
 | zero =>
  intro _
  rw [all_f (hk _) rfl,rhullTo_succ]
  show (true,mixL r (l.getD 0 []))=(true,hull2 (mixL r (l.getD 0 [])) (mixL r (l.getD 0 [])))
  rw [hull2,Int.min_self,Int.max_self]
 | succ n ih =>
  intro hn
  have h1:=ih (by omega)
  rw [all_t (hk _) (by rw [h1]),h1,rhullTo_succ _ _ (n + 1)]
theorem mixes_eq (r:Run):mixesS r=mixesR r:=by
 unfold mixesS mixesR
 rw [open_eq]
 split
 ·rename_i h0
  obtain ⟨ok,_⟩:=rf_zero h0
  have hp:=(rfE_zero h0).2.2
  rw [hull_eq (G:=mixL r) (ways_pos h0) (fun w hw=>way_mix ok hw),ways_froms ok,allMixes]
  obtain ⟨n,hn⟩:∃ n,(fromsOf r).length=n + 1:=⟨(fromsOf r).length - 1,by omega⟩
  rw [rhull,hn,all_hull n (by omega)]
 ·rfl
theorem minutes_le {h:Nat->Span} {n:Nat} (hn:1<=n/\n<=3) (hs:∀ p,p < n->(h p).lo<=(h p).hi):(minutes h n).lo<=(minutes h n).hi:=by
 have s0:=hs 0 (by omega)
 have:n=1 ∨ n=2 ∨ n=3:=by omega
 rcases this with rfl | rfl | rfl
 ·simp only [minutes,minTo,minIn,List.range_succ,List.range_zero,List.nil_append,List.foldl_cons,List.foldl_nil,if_true]
  omega
 ·have s1:=hs 1 (by omega)
  simp only [minutes,minTo,minIn,List.range_succ,List.range_zero,List.nil_append,List.cons_append,List.foldl_cons,List.foldl_nil,if_true]
  simp only [show ¬ (0:Nat)=1 by omega,show ¬ (1:Nat)=0 by omega,if_false]
  omega
 ·have s1:=hs 1 (by omega)
  have s2:=hs 2 (by omega)
  simp only [minutes,minTo,minIn,List.range_succ,List.range_zero,List.nil_append,List.cons_append,List.foldl_cons,List.foldl_nil,if_true]
  simp only [show ¬ (0:Nat)=1 by omega,show ¬ (1:Nat)=0 by omega,show ¬ (0:Nat)=2 by omega,show ¬ (2:Nat)=0 by omega,show ¬ (1:Nat)=2 by omega,show ¬ (2:Nat)=1 by omega,if_false]
  omega
theorem mixed_eq (r:Run) (m:Int):mixedS r m=mixedR r m:=by
 unfold mixedS mixedR
 rw [open_eq]
 split
 ·rename_i h0
  obtain ⟨ok,his⟩:=rf_zero h0
  have hm:=machIs_ok his
  have hpl:=ok.plates
  have hw:∀ w,w ∈ waysOf r->spread (w.whn m.toNat) r.plates.toNat=minutes (spanOf r w.frm m.toNat) r.plates.toNat/\(minutes (spanOf r w.frm m.toNat) r.plates.toNat).lo<=(minutes (spanOf r w.frm m.toNat) r.plates.toNat).hi:=by
   intro w h
   refine ⟨way_spread ok h (by omega),minutes_le (by omega) fun p hp => ?_⟩
   exact (canBe_iff ok).1 (way_ok ok h).1 _ (by omega) p (by omega)
  have hsu:suTo r (fromsOf r) m.toNat (fromsOf r).length=(waysOf r).all (mxSo r m.toNat):=by
   rw [suTo,List.take_length,← ways_froms ok,List.all_map,Bool.eq_iff_iff,List.all_eq_true,List.all_eq_true]
   constructor
   ·intro h w h1; have:=h w h1; rw [mxSo,(hw w h1).1]; exact this
   ·intro h w h1; have:=h w h1; rw [mxSo,(hw w h1).1] at this; exact this
  have hnv:nvTo r (fromsOf r) m.toNat (fromsOf r).length=(waysOf r).all (mxNot r m.toNat):=by
   rw [nvTo,List.take_length,← ways_froms ok,List.all_map,Bool.eq_iff_iff,List.all_eq_true,List.all_eq_true]
   constructor
   ·intro h w h1
    have h2:=h w h1
    have h3:=(hw w h1).2
    simp only [Function.comp_apply,decide_eq_true_eq] at h2
    rw [mxNot,mxSo,(hw w h1).1]
    simp only [Bool.and_eq_true,Bool.not_eq_true',decide_eq_true_eq,decide_eq_false_iff_not]
    omega
   ·intro h w h1
    have h2:=h w h1
    rw [mxNot,mxSo,(hw w h1).1] at h2
    simp only [Bool.and_eq_true] at h2
    exact h2.2
  rw [cnt_all,cnt_all,hsu,hnv]
  unfold known3
  by_cases c1:(waysOf r).countP (mxSo r m.toNat)=(waysOf r).length
  ·rw [if_pos (by rw [c1]),if_pos (by rw [List.all_eq_true]; exact List.countP_eq_length.1 c1)]
  ·rw [if_neg (by omega),if_neg (fun h=>c1 (List.countP_eq_length.2 (List.all_eq_true.1 h)))]
   by_cases c2:(waysOf r).countP (mxNot r m.toNat)=(waysOf r).length
   ·rw [if_pos (by rw [c2]),if_pos (by rw [List.all_eq_true]; exact List.countP_eq_length.1 c2)]
   ·rw [if_neg (by omega),if_neg (fun h=>c2 (List.countP_eq_length.2 (List.all_eq_true.1 h)))]
 ·rfl
end Go.Sh
namespace Go.Sh
def rated (t:Int) (m:Mach):Mach:=⟨m.changes,Go.Ab.wr (m.rate * t)⟩
def ratedR (r:Run) (t:Int):Run:=⟨r.plates,r.last,r.machines.map (rated t),r.found⟩
theorem spanTo_narrow (r:Run) (l:List Int) (m p:Nat):∀ n,(chg (mach r m) p).lo<=(spanTo r l m p n).lo/\(spanTo r l m p n).hi<=(chg (mach r m) p).hi:=by
 intro n
 induction n with
 | zero=>exact ⟨Int.le_refl _,Int.le_refl _⟩
 | succ n ih =>
  rw [spanTo_succ]
  unfold spanStep
  split
  ·split
   ·exact ⟨ih.1,Int.le_trans (Int.min_le_left _ _) ih.2⟩
   ·split
    ·exact ⟨Int.le_trans ih.1 (Int.le_max_left _ _),ih.2⟩
    ·exact ih
  ·exact ih
def hb (s:Span):Prop:=0<=s.lo/\s.lo<=s.hi/\s.hi<=30
theorem way_hb {r:Run} (ok:Ok r) {w:WayS} (hw:w ∈ waysOf r) {m p:Nat} (hm:m < r.machines.length) (hp:(p:Int) < r.plates):hb (w.whn m p):=by
 have h:=way_ok ok hw
 have h1:=ok.mach m hm
 have h2:=ok.span m hm p (by omega)
 have h3:=spanTo_narrow r w.frm m p w.frm.length
 have h4:=(canBe_iff ok).1 h.1 m hm p hp
 have h5:=ok.last
 rw [h.2 m hm p hp]
 unfold spanOf at h4 ⊢
 exact ⟨by omega,h4,by omega⟩
theorem sum_hb {r:Run} (ok:Ok r) {f:Nat->Span} (hf:∀ m,m < r.machines.length->hb (f m)):∀ n,n<=r.machines.length->0<=(sumTo r f n).lo/\(sumTo r f n).lo<=(sumTo r f n).hi/\(sumTo r f n).hi<=270 * n:=by
 intro n
 induction n with
 | zero=>intro _; simp [sumTo]
 | succ n ih =>
  intro hn
  have h1:=ih (by omega)
  have h2:=(ok.mach n (by omega)).2
  have h3:=hf n (by omega)
  rw [sumTo_succ]
  have a1:=Int.mul_nonneg h2.1 h3.1
  have a2:=Int.mul_le_mul_of_nonneg_left h3.2.1 h2.1
  have a3:(mach r n).rate * (f n).hi<=9 * 30:=Int.mul_le_mul h2.2 h3.2.2 (Int.le_trans h3.1 h3.2.1) (by decide)
  simp only
  omega
theorem hull_in {l:List WayS} {F:WayS->Span} {k:Int} (hl:0 < l.length) (h:∀ w,w ∈ l->0<=(F w).lo/\(F w).lo<=(F w).hi/\(F w).hi<=k):0<=(hullOf l F).lo/\(hullOf l F).lo<=(hullOf l F).hi/\(hullOf l F).hi<=k:=by
 have:∀ n,n<=l.length->0<=(hullTo l F n).lo/\(hullTo l F n).lo<=(hullTo l F n).hi/\(hullTo l F n).hi<=k:=by
  intro n
  induction n with
  | zero=>intro _; exact h _ (Go.Ab.getD_mem _ default hl)
  | succ n ih =>
   intro hn
   have h1:=ih (by omega)
   have h2:=h _ (Go.Ab.getD_mem l default (show n < l.length by omega))
   rw [hullTo_succ]
   simp only [hull2]
   omega
 exact this _ (Nat.le_refl _)
theorem minutes_hb {h:Nat->Span} {n:Nat} (hn:1<=n/\n<=3) (hs:∀ p,p < n->hb (h p)):hb (minutes h n):=by
 have hle:=minutes_le hn fun p hp=>(hs p hp).2.1
 have s0:=hs 0 (by omega)
 have:n=1 ∨ n=2 ∨ n=3:=by omega
 unfold hb at *
 rcases this with rfl | rfl | rfl
 ·refine ⟨?_,hle,?_⟩ <;> (simp only [minutes,minTo,minIn,List.range_succ,List.range_zero,List.nil_append,List.foldl_cons,List.foldl_nil,if_true]; omega)
 ·have s1:=hs 1 (by omega)
  refine ⟨?_,hle,?_⟩ <;> (simp only [minutes,minTo,minIn,List.range_succ,List.range_zero,List.nil_append,List.cons_append,List.foldl_cons,List.foldl_nil,if_true]; simp only [show ¬ (0:Nat)=1 by omega,show ¬ (1:Nat)=0 by omega,if_false]; omega)
 ·have s1:=hs 1 (by omega)
  have s2:=hs 2 (by omega)
  refine ⟨?_,hle,?_⟩ <;> (simp only [minutes,minTo,minIn,List.range_succ,List.range_zero,List.nil_append,List.cons_append,List.foldl_cons,List.foldl_nil,if_true]; simp only [show ¬ (0:Nat)=1 by omega,show ¬ (1:Nat)=0 by omega,show ¬ (0:Nat)=2 by omega,show ¬ (2:Nat)=0 by omega,show ¬ (1:Nat)=2 by omega,show ¬ (2:Nat)=1 by omega,if_false]; omega)
structure RatesF (r:Run) (t p:Int):Prop where
 ok:Ok r
 tt:0<=t/\t<=9
 e1:openE r (isPlate r p)=0
 e2:openE (ratedR r t) (isPlate (ratedR r t) p)=0
 e3:openE r true=0
 e4:openE (ratedR r t) true=0
 old:0<=(oldS r p).lo/\(oldS r p).lo<=(oldS r p).hi/\(oldS r p).hi<=810
 mix:0<=(mixesS r).lo/\(mixesS r).lo<=(mixesS r).hi/\(mixesS r).hi<=810
 old2:oldS (ratedR r t) p=⟨(oldS r p).lo * t,(oldS r p).hi * t⟩
 mix2:mixesS (ratedR r t)=⟨(mixesS r).lo * t,(mixesS r).hi * t⟩
end Go.Sh
namespace Go.Sh
theorem mem_whereP {l:List WayS} {f:Nat} {v:Int}:v ∈ whereP l f ↔ ∃ w,w ∈ l/\w.frm.getD f 0=v:=by
 obtain ⟨h1,h2⟩:=compact_sorted (sortI_sorted (wf l f))
 show v ∈ compactI (sortI (wf l f)) ↔ _
 rw [h2,sortI_mem]
 unfold wf
 rw [List.mem_map]
theorem mem_delW {l:List WayS} {f:Nat} {m:Int} {w:WayS}:w ∈ delW l (ofM f m) ↔ w ∈ l/\w.frm.getD f 0=m:=by
 unfold delW ofM
 rw [List.mem_filter]
 simp
theorem delW_pos {l:List WayS} {f i:Nat} (h:i < (whereP l f).length):0 < (delW l (ofM f ((whereP l f).getD i 0))).length:=by
 obtain ⟨w,hw,e⟩:=mem_whereP.1 (Go.Ab.getD_mem (whereP l f) 0 h)
 exact List.length_pos_of_mem (mem_delW.2 ⟨hw,e⟩)
theorem mixOf_in {r:Run} (ok:Ok r) {l:List WayS} (hl:0 < l.length) (h:∀ w,w ∈ l->w ∈ waysOf r):0<=(hullOf l (mixF r)).lo/\(hullOf l (mixF r)).lo<=(hullOf l (mixF r)).hi/\(hullOf l (mixF r)).hi<=810:=by
 have hpl:=ok.plates
 have hml:=ok.machines
 refine hull_in hl fun w hw => ?_
 have hw:=h w hw
 have:=sum_hb ok (f:=fun m=>spread (w.whn m) r.plates.toNat) (fun m hm=>by
  rw [way_spread ok hw hm]
  exact minutes_hb (by omega) fun q hq=>by
   have:=(way_ok ok hw).2 m hm q (by omega)
   rw [← this]; exact way_hb ok hw hm (by omega)) _ (Nat.le_refl _)
 show 0<=(sumTo r _ _).lo/\(sumTo r _ _).lo<=(sumTo r _ _).hi/\(sumTo r _ _).hi<=810
 omega
theorem seekTP_skip {r:Run} {l:List WayS} {c:Nat} (h:((whereP l c).length:Int) < 2):seekTP r l (c + 1)=seekTP r l c:=seek_skip (by omega)
theorem seekTP_t {r:Run} {l:List WayS} {c:Nat} (h:¬ ((whereP l c).length:Int) < 2) (h2:(seekTP r l c).1 < 0 ∨ worst (fun m=>mixOf r l c m) (whereP l c) < (seekTP r l c).2):seekTP r l (c + 1)=((c:Int),worst (fun m=>mixOf r l c m) (whereP l c)):=seek_t (by omega) h2
theorem seekTP_f {r:Run} {l:List WayS} {c:Nat} (h:¬ ((whereP l c).length:Int) < 2) (h2:¬ ((seekTP r l c).1 < 0 ∨ worst (fun m=>mixOf r l c m) (whereP l c) < (seekTP r l c).2)):seekTP r l (c + 1)=seekTP r l c:=seek_f (by omega) h2
theorem seek_b {r:Run} {l:List WayS} {c:Nat} {k:Int} {b:Bool} (h:(bif decide ((seekTP r l c).1 < 0) then true else decide (k < (seekTP r l c).2))=b):b=true ↔ ((seekTP r l c).1 < 0 ∨ k < (seekTP r l c).2):=by
 subst h
 by_cases h1:(seekTP r l c).1 < 0
 ·simp [h1]
 ·simp [h1]
theorem seekP_bad {r:Run} (h:openE r true ≠ 0):seekP r=(0,openE r true):=by rw [seekP,if_neg h]
theorem seekTP_succ (r:Run) (l:List WayS) (c:Nat):seekTP r l (c + 1)=seekStep (whereP l) (fun c m=>mixOf r l c m) (seekTP r l c) c:=seekTo_succ _ _ _
theorem allTo_hull {r:Run} (l:List (List Int)) (f:Nat) (m:Int) (hm:0<=m):∀ n,n<=l.length->allTo r l f m n=if ((l.take n).filter fun x=>decide (x.getD f 0=m)).length=0 then (false,⟨0,0⟩) else (true,rhull ((l.take n).filter fun x=>decide (x.getD f 0=m)) (mixL r)):=by
 intro n
 induction n with
 | zero=>intro _; rfl
 | succ n ih =>
  intro hn
  have h1:=ih (by omega)
  rw [Go.Ab.take_succ _ [] (by omega),List.filter_append]
  by_cases e:(l.getD n []).getD f 0=m
  ·have hs:skipL f m (l.getD n [])=false:=by unfold skipL; rw [decide_eq_true e]; simp
   rw [List.filter_cons_of_pos (by rw [decide_eq_true e]),List.filter_nil]
   generalize hL:(l.take n).filter (fun x=>decide (x.getD f 0=m))=L at h1
   rw [if_neg (by simp)]
   by_cases c:L.length=0
   ·have:L = []:=List.length_eq_zero_iff.1 c
    subst this
    rw [if_pos c] at h1
    rw [all_f hs (by rw [h1])]
    show (true,mixL r (l.getD n []))=(true,hull2 (mixL r (l.getD n [])) (mixL r (l.getD n [])))
    rw [hull2,Int.min_self,Int.max_self]
   ·rw [if_neg c] at h1
    rw [all_t hs (by rw [h1]),h1]
    unfold rhull
    rw [List.length_append,List.length_singleton,rhullTo_succ]
    have h2:∀ k,k<=L.length->rhullTo (L ++ [l.getD n []]) (mixL r) k=rhullTo L (mixL r) k:=by
     intro k
     induction k with
     | zero =>
      intro _
      show mixL r ((L ++ [l.getD n []]).getD 0 [])=mixL r (L.getD 0 [])
      rw [Go.Ab.getD_append,if_pos (by omega)]
     | succ k ihk =>
      intro hk
      rw [rhullTo_succ,rhullTo_succ,ihk (by omega),Go.Ab.getD_append,if_pos (by omega)]
    rw [h2 _ (Nat.le_refl _),Go.Ab.getD_append,if_neg (Nat.lt_irrefl _),Nat.sub_self]
    rfl
  ·have hs:skipL f m (l.getD n [])=true:=by unfold skipL; rw [decide_eq_false e,decide_eq_true hm]; rfl
   rw [List.filter_cons_of_neg (by rw [decide_eq_false e]; exact Bool.false_ne_true),List.filter_nil,List.append_nil,all_skip hs]
   exact h1
theorem mixOf_all {r:Run} (ok:Ok r) {f:Nat} (hf:f < r.found.length) {m:Int} (hm:m ∈ whereP (waysOf r) f):mixOf r (waysOf r) f m=allMixes r (fromsOf r) f m:=by
 obtain ⟨w,hw,e⟩:=mem_whereP.1 hm
 have hb:=way_mach ok hw hf
 have hpos:0 < (delW (waysOf r) (ofM f m)).length:=List.length_pos_of_mem (mem_delW.2 ⟨hw,e⟩)
 rw [mixOf,hull_eq (G:=mixL r) hpos (fun v hv=>way_mix ok (mem_delW.1 hv).1),allMixes,allTo_hull _ _ _ (by omega) _ (Nat.le_refl _),List.take_length]
 have hlist:(delW (waysOf r) (ofM f m)).map (·.frm)=(fromsOf r).filter fun x=>decide (x.getD f 0=m):=by
  rw [← ways_froms ok,List.filter_map]
  unfold delW ofM
  congr 2
  funext v
  simp
 rw [← hlist,if_neg (by rw [List.length_map]; omega)]
theorem worst_congr {mx mx':Int->Span} {w:List Int} (h:∀ v,v ∈ w->mx v=mx' v):worst mx w=worst mx' w:=by
 have:∀ n,n<=w.length->worstTo mx w n=worstTo mx' w n:=by
  intro n
  induction n with
  | zero=>intro _; rfl
  | succ n ih=>intro hn; rw [worstTo_succ,worstTo_succ,ih (by omega),h _ (Go.Ab.getD_mem w 0 (by omega))]
 exact this _ (Nat.le_refl _)
theorem seek_eq (r:Run):seekP r=seekR r:=by
 unfold seekP seekR
 rw [open_eq]
 split
 ·rename_i h0
  obtain ⟨ok,_⟩:=rf_zero h0
  have:∀ n,n<=r.found.length->seekTP r (waysOf r) n=seekTR r (fromsOf r) n:=by
   intro n
   induction n with
   | zero=>intro _; rfl
   | succ n ih =>
    intro hn
    have hw:=where_ways ok (f:=n) (by omega)
    have hwo:worst ((fun c m=>mixOf r (waysOf r) c m) n) (whereP (waysOf r) n)=worst ((fun c m=>allMixes r (fromsOf r) c m) n) (whereP (waysOf r) n):=worst_congr fun v hv=>mixOf_all ok (by omega) hv
    rw [seekTP_succ,seekTR,seekTo_succ,ih (by omega)]
    unfold seekStep
    rw [hwo,hw]
    rfl
  rw [this _ (Nat.le_refl _)]
 ·rfl
end Go.Sh
namespace Go.Ab
open Go Go.RowKit Go.Proofs Go.Sh Go.En
def s54 (r:Run):CallSpec:={ args:=[vRun r],res := .tup [iv (seekP r).1,iv (seekP r).2],pre:=fits r }
def h54a (r:Run):Hint:={ X:=Nat,M:=fun c=>[(6,iv (seekTP r (openL r true) c).1),(7,iv (seekTP r (openL r true) c).2),(25,iv c)],I:=fun c=>c<=r.found.length,mu:=fun c=>r.found.length - c,x0:=(0:Nat),nx:=fun c=>c + 1 }
def h54b (r:Run) (c:Nat):Hint:={ X:=Nat,M:=fun i=>[(10,iv (worstTo (fun m=>mixOf r (openL r true) c m) (whereP (openL r true) c) i)),(36,iv i)],I:=fun i=>i<=(whereP (openL r true) c).length,mu:=fun i=>(whereP (openL r true) c).length - i,x0:=(0:Nat),nx:=fun i=>i + 1 }
def c54a (r:Run) (c:Nat):CallSpec:=s90 (openL r true) c
def c54b (r:Run) (c i:Nat) (id:Nat):CallSpec:=s95o (openL r true) id
def c54c (r:Run) (c i:Nat):CallSpec:=s94 20320 (openL r true) (ofM c ((whereP (openL r true) c).getD i 0))
def c54d (r:Run) (c i:Nat):CallSpec:=s84 r (delW (openL r true) (ofM c ((whereP (openL r true) c).getD i 0)))
end Go.Ab
