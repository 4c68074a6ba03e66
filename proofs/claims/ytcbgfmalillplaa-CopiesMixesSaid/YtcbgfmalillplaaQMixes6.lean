/- CopiesMixes returns true for every run and two numbers, and leaves what it was handed as it was. No condition. -/
import Derived.Test.YtcbgfmalillplaaQMixes5
import Derived.Deep.Slices
import Derived.ChangeShapes
import Derived.Carry
import Derived.OpenShut
import Derived.SizedLaws
import Derived.Test.YtcbgfmalillplaaRows
import Derived.ProofKit
import Derived.JoinedOf
set_option linter.all false
set_option linter.deprecated false
namespace Go.Ab
open Go Go.RowKit Go.Proofs Go.Sh Go.En
abbrev z54_1 (r:Run) (x2:Nat):LoopAnn:=Hint.ann (h54b r x2) [(1,AV.ptr 0 []),(4,aWays (openL r true)),(24,iv (↑(r.found.length):Int)),(6,iv (seekTP r (openL r true) x2).1),(7,iv (seekTP r (openL r true) x2).2),(25,iv (x2:Int)),(8,AV.rp [iv (x2:Int)]),(34,aInts (whereP (openL r true) x2)),(35,iv (↑((whereP (openL r true) x2).length):Int))] [(0,OB.cells 25 (cRun r))] 20264
abbrev z54_2 (r:Run):LoopAnn:=Hint.ann (h54a r) [(1,AV.ptr 0 []),(4,aWays (openL r true)),(24,iv (↑(r.found.length):Int))] [(0,OB.cells 25 (cRun r))] 10144
abbrev q54_1 (r:Run) (C:Prop):Prop:=fits r->(!decide (openE r true=0))=false->C
abbrev q54_2 (r:Run) (C:Nat->Prop):Prop:=q54_1 r (∀ (x2:Nat),x2<=r.found.length->decide ((x2:Int) < (↑(r.found.length):Int))=true->C x2)
abbrev q54_3 (r:Run) (C:Nat->Prop):Prop:=q54_2 r fun x2=>decide ((↑((whereP (openL r true) x2).length):Int) < 2)=true->C x2
abbrev q54_4 (r:Run) (C:Nat->Prop):Prop:=q54_2 r fun x2=>decide ((↑((whereP (openL r true) x2).length):Int) < 2)=false->C x2
abbrev q54_5 (r:Run) (C:Nat->Nat->Prop):Prop:=q54_4 r fun x2 => ∀ (x8:Nat),x8<=(whereP (openL r true) x2).length->decide ((x8:Int) < (↑((whereP (openL r true) x2).length):Int))=true->C x2 x8
abbrev q54_6 (r:Run) (C:Nat->Nat->Prop):Prop:=q54_4 r fun x2 => ∀ (x8:Nat),x8<=(whereP (openL r true) x2).length->decide ((x8:Int) < (↑((whereP (openL r true) x2).length):Int))=false->C x2 x8
abbrev q54_7 (r:Run) (C:Nat->Nat->Prop):Prop:=q54_6 r fun x2 x8=>(bif decide ((seekTP r (openL r true) x2).1 < 0) then true else decide (worstTo (fun (m:Int)=>mixOf r (openL r true) x2 m) (whereP (openL r true) x2) x8 < (seekTP r (openL r true) x2).2))=true->C x2 x8
abbrev q54_8 (r:Run) (C:Nat->Nat->Prop):Prop:=q54_6 r fun x2 x8=>(bif decide ((seekTP r (openL r true) x2).1 < 0) then true else decide (worstTo (fun (m:Int)=>mixOf r (openL r true) x2 m) (whereP (openL r true) x2) x8 < (seekTP r (openL r true) x2).2))=false->C x2 x8
abbrev q54_9 (r:Run) (C:Nat->Prop):Prop:=q54_1 r (∀ (x2:Nat),x2<=r.found.length->decide ((x2:Int) < (↑(r.found.length):Int))=false->decide ((seekTP r (openL r true) x2).1 < 0)=true->C x2)
abbrev q54_10 (r:Run) (C:Nat->Prop):Prop:=q54_1 r (∀ (x2:Nat),x2<=r.found.length->decide ((x2:Int) < (↑(r.found.length):Int))=false->decide ((seekTP r (openL r true) x2).1 < 0)=false->C x2)
theorem w54 (r:Run)
 (o0:fits r->(!decide (openE r true=0))->0=(seekP r).1)
 (o1:fits r->(!decide (openE r true=0))->openE r true=(seekP r).2)
 (o2:q54_1 r (-1=(seekTP r (openL r true) 0).1))
 (o3:q54_1 r (0=(seekTP r (openL r true) 0).2))
 (o4:q54_1 r (0=(↑0:Int)))
 (o5:q54_1 r (0<=r.found.length))
 (o6:q54_2 r fun x2=>0 < (openL r true).length)
 (o7:q54_2 r fun x2=>(openL r true).length<=729)
 (o8:q54_2 r fun x2 => ∀ (i4:Nat),i4 < (openL r true).length->x2 < ((openL r true).getD i4 default).frm.length)
 (o9:q54_3 r fun x2=>inI ((x2:Int) + 1))
 (o10:q54_3 r fun x2=>(seekTP r (openL r true) x2).1=(seekTP r (openL r true) (x2 + 1)).1)
 (o11:q54_3 r fun x2=>(seekTP r (openL r true) x2).2=(seekTP r (openL r true) (x2 + 1)).2)
 (o12:q54_3 r fun x2=>(x2:Int) + 1=(↑(x2 + 1):Int))
 (o13:q54_3 r fun x2=>x2 + 1<=r.found.length)
 (o14:q54_3 r fun x2=>r.found.length - (x2 + 1) < r.found.length - x2)
 (o15:q54_4 r fun x2=>0=worstTo (fun (m:Int)=>mixOf r (openL r true) x2 m) (whereP (openL r true) x2) 0)
 (o16:q54_4 r fun x2=>0=(↑0:Int))
 (o17:q54_4 r fun x2=>0<=(whereP (openL r true) x2).length)
 (o18:q54_5 r fun x2 x8=>0<=(x8:Int))
 (o19:q54_5 r fun x2 x8=>(x8:Int) < (↑((whereP (openL r true) x2).length):Int))
 (o20:q54_5 r fun x2 x8=>0 < (openL r true).length)
 (o21:q54_5 r fun x2 x8=>(openL r true).length<=65536)
 (o22:q54_5 r fun x2 x8=>0 < (openL r true).length)
 (o23:q54_5 r fun x2 x8=>(openL r true).length<=65536)
 (o24:∀ (E0:Env),fits r->(!decide (openE r true=0))=false -> ∀ (x2:Nat),x2<=r.found.length->decide ((x2:Int) < (↑(r.found.length):Int))=true->decide ((↑((whereP (openL r true) x2).length):Int) < 2)=false -> ∀ (x8:Nat),x8<=(whereP (openL r true) x2).length->decide ((x8:Int) < (↑((whereP (openL r true) x2).length):Int))=true -> ∀ (i11:Env) (i12:List Value),Env.le E0 i11->i12.length=2->(∀ (k:Nat),Rel i11 true (List.getD [AV.vec 20320,AV.clo 96 [AV.rp [iv (x2:Int)],AV.rp [iv ((whereP (openL r true) x2).getD x8 0)]]] k AV.any) (i12.getD k undef))->fnokOf Try.prog 0 (fun (w:{ w:WayS // w ∈ openL r true })=>[AV.agg (cWay (Subtype.val w))]) (fun (w:{ w:WayS // w ∈ openL r true })=>bv (ofM x2 ((whereP (openL r true) x2).getD x8 0) (Subtype.val w))) (Env.mk i11.1 i11.2 i11.3 fun (k:Nat) (u:Value) => ∃ (i:Nat),[AV.vec 20320,AV.fn 0][i]? = some (AV.fn k)/\i12[i]? = some u))
 (o25:q54_5 r fun x2 x8=>rb r)
 (o26:q54_5 r fun x2 x8 => ∀ (i18:WayS),i18 ∈ delW (openL r true) (ofM x2 ((whereP (openL r true) x2).getD x8 0))->wb i18)
 (o27:q54_5 r fun x2 x8=>1<=r.plates)
 (o28:q54_5 r fun x2 x8=>r.plates<=3)
 (o29:q54_5 r fun x2 x8=>0 < (delW (openL r true) (ofM x2 ((whereP (openL r true) x2).getD x8 0))).length)
 (o30:q54_5 r fun x2 x8=>(delW (openL r true) (ofM x2 ((whereP (openL r true) x2).getD x8 0))).length<=65536)
 (o31:q54_5 r fun x2 x8=>inI ((hullOf (delW (openL r true) (ofM x2 ((whereP (openL r true) x2).getD x8 0))) (mixF r)).hi - (hullOf (delW (openL r true) (ofM x2 ((whereP (openL r true) x2).getD x8 0))) (mixF r)).lo))
 (o32:q54_5 r fun x2 x8=>inI ((x8:Int) + 1))
 (o33:q54_5 r fun x2 x8=>max (worstTo (fun (m:Int)=>mixOf r (openL r true) x2 m) (whereP (openL r true) x2) x8) ((hullOf (delW (openL r true) (ofM x2 ((whereP (openL r true) x2).getD x8 0))) (mixF r)).hi - (hullOf (delW (openL r true) (ofM x2 ((whereP (openL r true) x2).getD x8 0))) (mixF r)).lo)=worstTo (fun (m:Int)=>mixOf r (openL r true) x2 m) (whereP (openL r true) x2) (x8 + 1))
 (o34:q54_5 r fun x2 x8=>(x8:Int) + 1=(↑(x8 + 1):Int))
 (o35:q54_5 r fun x2 x8=>x8 + 1<=(whereP (openL r true) x2).length)
 (o36:q54_5 r fun x2 x8=>(whereP (openL r true) x2).length - (x8 + 1) < (whereP (openL r true) x2).length - x8)
 (o37:q54_6 r fun x2 x8=>decide ((seekTP r (openL r true) x2).1 < 0)=false->(!decide ((seekTP r (openL r true) x2).1 < 0))=true)
 (o38:q54_7 r fun x2 x8=>inI ((x2:Int) + 1))
 (o39:q54_7 r fun x2 x8=>(x2:Int)=(seekTP r (openL r true) (x2 + 1)).1)
 (o40:q54_7 r fun x2 x8=>worstTo (fun (m:Int)=>mixOf r (openL r true) x2 m) (whereP (openL r true) x2) x8=(seekTP r (openL r true) (x2 + 1)).2)
 (o41:q54_7 r fun x2 x8=>(x2:Int) + 1=(↑(x2 + 1):Int))
 (o42:q54_7 r fun x2 x8=>x2 + 1<=r.found.length)
 (o43:q54_7 r fun x2 x8=>r.found.length - (x2 + 1) < r.found.length - x2)
 (o44:q54_8 r fun x2 x8=>inI ((x2:Int) + 1))
 (o45:q54_8 r fun x2 x8=>(seekTP r (openL r true) x2).1=(seekTP r (openL r true) (x2 + 1)).1)
 (o46:q54_8 r fun x2 x8=>(seekTP r (openL r true) x2).2=(seekTP r (openL r true) (x2 + 1)).2)
 (o47:q54_8 r fun x2 x8=>(x2:Int) + 1=(↑(x2 + 1):Int))
 (o48:q54_8 r fun x2 x8=>x2 + 1<=r.found.length)
 (o49:q54_8 r fun x2 x8=>r.found.length - (x2 + 1) < r.found.length - x2)
 (o50:q54_9 r fun x2=>0=(seekP r).1)
 (o51:q54_9 r fun x2=>3=(seekP r).2)
 (o52:q54_10 r fun x2=>(seekTP r (openL r true) x2).1=(seekP r).1)
 (o53:q54_10 r fun x2=>0=(seekP r).2) :
  Triple Try.prog 54 (s54 r):=by
 refine triple_of Try.func54 rfl Try.call54 T0_ok _ rfl rfl rfl rfl (Nat.le_of_ble_eq_true (by kernel_rfl)) (fun _ _ _ _ h=>h) ?_
 intro hp C hC _ hE
 obtain ⟨P,w0,E0,av,hA⟩:=C
 subst hC
 refine swp_seq ?_
 refine sQ (kt:=[1]) (kh:=[0]) (q:=tn 3) (st':=ASt.mk [(1,.ptr 0 [])] [(0,.cells 25 (cRun r))] 24) (tp 3) ?_
 refine swp_seq ?_
 refine sC (cs:=[(1,CallSpec.eq (s78 r true) [true,true])]) (kt:=[1,4,5]) (kh:=[0]) (q:=True/\((zE (AV.agg (cRun r))/\zE (bv true)/\True)/\Triple Try.prog 78 (s78 r true)/\fits r/\True /\ ∀ (i0:Env),True)/\tn 5) (st':=ASt.mk [(1,.ptr 0 []),(4,aWays (openL r true)),(5,iv (openE r true))] [(0,.cells 25 (cRun r))] 80) ⟨tv,⟨⟨rfl,rfl,tv⟩,(t78 (r) (true)),hp,tv,(fun i0=>tv)⟩,tp 5⟩ ?_
 refine swp_seq (swp_seq ?_)
 refine sQ (kt:=[1,4,5,20]) (kh:=[0]) (q:=tn 2) (st':=ASt.mk [(1,.ptr 0 []),(4,aWays (openL r true)),(5,iv (openE r true)),(20,bv !decide (openE r true=0))] [(0,.cells 25 (cRun r))] 96) (tp 2) ?_
 refine swp_cond (!decide (openE r true=0)) (by kernel_rfl) (fun h1 => ?_) (fun h1 => ?_)
 ·refine swp_seq ?_
  refine sQ (kt:=[2,3]) (kh:=[]) (q:=tn 3) (st':=ASt.mk [(2,iv 0),(3,iv (openE r true))] [] 120) (tp 3) ?_
  refine swp_ret ?_
  exact rQ [] ((True/\True/\True)/\((zN (iv 0) (iv (seekP r).1))/\(zN (iv (openE r true)) (iv (seekP r).2))/\True)/\T3) ⟨⟨tv,tv,tv⟩,⟨⟨(congrArg iv (o0 hp h1)),rfl⟩,⟨(congrArg iv (o1 hp h1)),rfl⟩,tv⟩,rfl,rfl,rfl⟩
 ·refine swp_skip (swp_seq ?_)
  refine sQ (kt:=[1,4,6,7]) (kh:=[0]) (q:=tn 2) (st':=ASt.mk [(1,.ptr 0 []),(4,aWays (openL r true)),(6,iv (-1)),(7,iv 0)] [(0,.cells 25 (cRun r))] 112) (tp 2) ?_
  refine swp_seq (swp_seq ?_)
  refine sQ (kt:=[1,4,6,7,24,25]) (kh:=[0]) (q:=tn 4) (st':=ASt.mk [(1,.ptr 0 []),(4,aWays (openL r true)),(6,iv (-1)),(7,iv 0),(24,iv (↑(r.found.length):Int)),(25,iv 0)] [(0,.cells 25 (cRun r))] 144) (tp 4) ?_
  refine swp_block ?_
  refine swp_loopA (z54_2 r) (eQ hE [] [(0,.same 0)] [4,24] [0] (((zP 0)/\(zT (aWays (openL r true)))/\(zT (iv (↑(r.found.length):Int)))/\(zN (iv (-1)) (iv (seekTP r (openL r true) 0).1))/\(zN (iv 0) (iv (seekTP r (openL r true) 0).2))/\(zN (iv 0) (iv (↑0:Int)))/\True)/\((zT (OB.cells 25 (cRun r)))/\True)/\T2) ⟨⟨⟨rfl,rfl⟩,⟨rfl,rfl⟩,⟨rfl,rfl⟩,⟨(congrArg iv (o2 hp h1)),rfl⟩,⟨(congrArg iv (o3 hp h1)),rfl⟩,⟨(congrArg iv (o4 hp h1)),rfl⟩,tv⟩,⟨⟨rfl,rfl⟩,tv⟩,rfl,rfl⟩) (o5 hp h1) (fun (x2:Nat) hx2 => ?_)
  refine swp_seq ?_
  refine sQ (kt:=[1,4,24,6,7,25,26]) (kh:=[0]) (q:=True/\True) (st':=ASt.mk [(1,.ptr 0 []),(4,aWays (openL r true)),(24,iv (↑(r.found.length):Int)),(6,iv (seekTP r (openL r true) x2).1),(7,iv (seekTP r (openL r true) x2).2),(25,iv (x2:Int)),(26,bv (decide ((x2:Int) < (↑(r.found.length):Int))))] [(0,.cells 25 (cRun r))] 10152) ⟨tv,tv⟩ ?_
  refine swp_seq ?_
  refine swp_cond (decide ((x2:Int) < (↑(r.found.length):Int))) (by kernel_rfl) (fun h3 => ?_) (fun h3 => ?_)
  ·refine swp_skip (swp_seq (swp_block (swp_seq ?_)))
   refine sQ (kt:=[1,4,24,6,7,25,8]) (kh:=[0,10160]) (q:=tn 3) (st':=ASt.mk [(1,.ptr 0 []),(4,aWays (openL r true)),(24,iv (↑(r.found.length):Int)),(6,iv (seekTP r (openL r true) x2).1),(7,iv (seekTP r (openL r true) x2).2),(25,iv (x2:Int)),(8,.ptr 10160 [])] [(0,.cells 25 (cRun r)),(10160,.cells 3 [iv (x2:Int)])] 10176) (tp 3) ?_
   refine swp_seq ?_
   refine sC (cs:=[(2,CallSpec.eq (c54a r x2) [true,true])]) (kt:=[1,4,24,6,7,25,8,9]) (kh:=[0,10160]) (q:=True/\True/\((zE (aWays (openL r true))/\zE (iv (x2:Int))/\True)/\Triple Try.prog 90 (c54a r x2)/\(0 < (openL r true).length/\(openL r true).length<=729 /\ ∀ (i4:Nat),i4 < (openL r true).length->x2 < ((openL r true).getD i4 default).frm.length)/\True /\ ∀ (i6:Env),True)/\True/\True) (st':=ASt.mk [(1,.ptr 0 []),(4,aWays (openL r true)),(24,iv (↑(r.found.length):Int)),(6,iv (seekTP r (openL r true) x2).1),(7,iv (seekTP r (openL r true) x2).2),(25,iv (x2:Int)),(8,.ptr 10160 []),(9,aInts (whereP (openL r true) x2))] [(0,.cells 25 (cRun r)),(10160,.cells 3 [iv (x2:Int)])] 10208) ⟨tv,tv,⟨⟨rfl,rfl,tv⟩,(t90 _ _),⟨(o6 hp h1 x2 hx2 h3),(o7 hp h1 x2 hx2 h3),(fun i4=>(fun h5=>(o8 hp h1 x2 hx2 h3 i4 h5)))⟩,tv,(fun i6=>tv)⟩,tv,tv⟩ ?_
   refine swp_seq (swp_seq ?_)
   refine sQ (kt:=[1,4,24,6,7,25,8,9,33]) (kh:=[0,10160]) (q:=tn 3) (st':=ASt.mk [(1,.ptr 0 []),(4,aWays (openL r true)),(24,iv (↑(r.found.length):Int)),(6,iv (seekTP r (openL r true) x2).1),(7,iv (seekTP r (openL r true) x2).2),(25,iv (x2:Int)),(8,.ptr 10160 []),(9,aInts (whereP (openL r true) x2)),(33,bv (decide ((↑((whereP (openL r true) x2).length):Int) < 2)))] [(0,.cells 25 (cRun r)),(10160,.cells 3 [iv (x2:Int)])] 10232) (tp 3) ?_
   refine swp_cond (decide ((↑((whereP (openL r true) x2).length):Int) < 2)) (by kernel_rfl) (fun h7 => ?_) (fun h7 => ?_)
   ·refine swp_exit ?_
    refine sQ (kt:=[1,4,24,6,7,25]) (kh:=[0]) (q:=inI ((x2:Int) + 1)/\True/\True) (st':=ASt.mk [(1,.ptr 0 []),(4,aWays (openL r true)),(24,iv (↑(r.found.length):Int)),(6,iv (seekTP r (openL r true) x2).1),(7,iv (seekTP r (openL r true) x2).2),(25,iv ((x2:Int) + 1))] [(0,.cells 25 (cRun r))] 10248) ⟨(o9 hp h1 x2 hx2 h3 h7),tv,tv⟩ ?_
    exact loop_next (z54_2 r) x2 (eQ hE [] [(0,.same 0)] [4,24] [0] (((zP 0)/\(zT (aWays (openL r true)))/\(zT (iv (↑(r.found.length):Int)))/\(zN (iv (seekTP r (openL r true) x2).1) (iv (seekTP r (openL r true) (x2 + 1)).1))/\(zN (iv (seekTP r (openL r true) x2).2) (iv (seekTP r (openL r true) (x2 + 1)).2))/\(zN (iv ((x2:Int) + 1)) (iv (↑(x2 + 1):Int)))/\True)/\((zT (OB.cells 25 (cRun r)))/\True)/\T2) ⟨⟨⟨rfl,rfl⟩,⟨rfl,rfl⟩,⟨rfl,rfl⟩,⟨(congrArg iv (o10 hp h1 x2 hx2 h3 h7)),rfl⟩,⟨(congrArg iv (o11 hp h1 x2 hx2 h3 h7)),rfl⟩,⟨(congrArg iv (o12 hp h1 x2 hx2 h3 h7)),rfl⟩,tv⟩,⟨⟨rfl,rfl⟩,tv⟩,rfl,rfl⟩) (o13 hp h1 x2 hx2 h3 h7) (o14 hp h1 x2 hx2 h3 h7)
   ·refine swp_skip (swp_seq ?_)
    refine swp_ent (ent_fz 10160 3 ([iv (x2:Int)]) (ASt.mk [(1,AV.ptr 0 []),(4,aWays (openL r true)),(24,iv (↑(r.found.length):Int)),(6,iv (seekTP r (openL r true) x2).1),(7,iv (seekTP r (openL r true) x2).2),(25,iv (x2:Int)),(8,AV.rp [iv (x2:Int)]),(9,aInts (whereP (openL r true) x2)),(33,bv (decide ((↑((whereP (openL r true) x2).length):Int) < 2)))] [(0,OB.cells 25 (cRun r))] 10232) (by kernel_rfl) (by kernel_rfl) (by kernel_rfl)) ?_
    refine sQ (kt:=[1,4,24,6,7,25,8,9,10]) (kh:=[0]) (q:=True/\True) (st':=ASt.mk [(1,.ptr 0 []),(4,aWays (openL r true)),(24,iv (↑(r.found.length):Int)),(6,iv (seekTP r (openL r true) x2).1),(7,iv (seekTP r (openL r true) x2).2),(25,iv (x2:Int)),(8,.rp [iv (x2:Int)]),(9,aInts (whereP (openL r true) x2)),(10,iv 0)] [(0,.cells 25 (cRun r))] 10240) ⟨tv,tv⟩ ?_
    refine swp_seq (swp_seq ?_)
    refine sQ (kt:=[1,4,24,6,7,25,8,10,34,35,36]) (kh:=[0]) (q:=tn 3) (st':=ASt.mk [(1,.ptr 0 []),(4,aWays (openL r true)),(24,iv (↑(r.found.length):Int)),(6,iv (seekTP r (openL r true) x2).1),(7,iv (seekTP r (openL r true) x2).2),(25,iv (x2:Int)),(8,.rp [iv (x2:Int)]),(10,iv 0),(34,aInts (whereP (openL r true) x2)),(35,iv (↑((whereP (openL r true) x2).length):Int)),(36,iv 0)] [(0,.cells 25 (cRun r))] 10264) (tp 3) ?_
    refine swp_block ?_
    refine swp_loopA (z54_1 r x2) (eQ hE [] [(0,.same 0)] [4,24,6,7,25,8,34,35] [0] (((zP 0)/\(zT (aWays (openL r true)))/\(zT (iv (↑(r.found.length):Int)))/\(zT (iv (seekTP r (openL r true) x2).1))/\(zT (iv (seekTP r (openL r true) x2).2))/\(zT (iv (x2:Int)))/\(zT (AV.rp [iv (x2:Int)]))/\(zT (aInts (whereP (openL r true) x2)))/\(zT (iv (↑((whereP (openL r true) x2).length):Int)))/\(zN (iv 0) (iv (worstTo (fun (m:Int)=>mixOf r (openL r true) x2 m) (whereP (openL r true) x2) 0)))/\(zN (iv 0) (iv (↑0:Int)))/\True)/\((zT (OB.cells 25 (cRun r)))/\True)/\T2) ⟨⟨⟨rfl,rfl⟩,⟨rfl,rfl⟩,⟨rfl,rfl⟩,⟨rfl,rfl⟩,⟨rfl,rfl⟩,⟨rfl,rfl⟩,⟨rfl,rfl⟩,⟨rfl,rfl⟩,⟨rfl,rfl⟩,⟨(congrArg iv (o15 hp h1 x2 hx2 h3 h7)),rfl⟩,⟨(congrArg iv (o16 hp h1 x2 hx2 h3 h7)),rfl⟩,tv⟩,⟨⟨rfl,rfl⟩,tv⟩,rfl,rfl⟩) (o17 hp h1 x2 hx2 h3 h7) (fun (x8:Nat) hx8 => ?_)
    refine swp_seq ?_
    refine sQ (kt:=[1,4,24,6,7,25,8,34,35,10,36,37]) (kh:=[0]) (q:=True/\True) (st':=ASt.mk [(1,.ptr 0 []),(4,aWays (openL r true)),(24,iv (↑(r.found.length):Int)),(6,iv (seekTP r (openL r true) x2).1),(7,iv (seekTP r (openL r true) x2).2),(25,iv (x2:Int)),(8,.rp [iv (x2:Int)]),(34,aInts (whereP (openL r true) x2)),(35,iv (↑((whereP (openL r true) x2).length):Int)),(10,iv (worstTo (fun (m:Int)=>mixOf r (openL r true) x2 m) (whereP (openL r true) x2) x8)),(36,iv (x8:Int)),(37,bv (decide ((x8:Int) < (↑((whereP (openL r true) x2).length):Int))))] [(0,.cells 25 (cRun r))] 20272) ⟨tv,tv⟩ ?_
    refine swp_seq ?_
    refine swp_cond (decide ((x8:Int) < (↑((whereP (openL r true) x2).length):Int))) (by kernel_rfl) (fun h9 => ?_) (fun h9 => ?_)
    ·refine swp_skip (swp_seq (swp_block (swp_seq ?_)))
     refine sQ (kt:=[1,4,24,6,7,25,8,34,35,10,36,12]) (kh:=[0,20288]) (q:=(0<=(x8:Int)/\(x8:Int) < (↑((whereP (openL r true) x2).length):Int))/\tn 3) (st':=ASt.mk [(1,.ptr 0 []),(4,aWays (openL r true)),(24,iv (↑(r.found.length):Int)),(6,iv (seekTP r (openL r true) x2).1),(7,iv (seekTP r (openL r true) x2).2),(25,iv (x2:Int)),(8,.rp [iv (x2:Int)]),(34,aInts (whereP (openL r true) x2)),(35,iv (↑((whereP (openL r true) x2).length):Int)),(10,iv (worstTo (fun (m:Int)=>mixOf r (openL r true) x2 m) (whereP (openL r true) x2) x8)),(36,iv (x8:Int)),(12,.ptr 20288 [])] [(0,.cells 25 (cRun r)),(20288,.cells 3 [iv ((whereP (openL r true) x2).getD x8 0)])] 20304) ⟨⟨(o18 hp h1 x2 hx2 h3 h7 x8 hx8 h9),(o19 hp h1 x2 hx2 h3 h7 x8 hx8 h9)⟩,tp 3⟩ ?_
     refine swp_seq ?_
     refine swp_ent (ent_fz 20288 3 ([iv ((whereP (openL r true) x2).getD x8 0)]) (ASt.mk [(1,AV.ptr 0 []),(4,aWays (openL r true)),(24,iv (↑(r.found.length):Int)),(6,iv (seekTP r (openL r true) x2).1),(7,iv (seekTP r (openL r true) x2).2),(25,iv (x2:Int)),(8,AV.rp [iv (x2:Int)]),(34,aInts (whereP (openL r true) x2)),(35,iv (↑((whereP (openL r true) x2).length):Int)),(10,iv (worstTo (fun (m:Int)=>mixOf r (openL r true) x2 m) (whereP (openL r true) x2) x8)),(36,iv (x8:Int)),(12,AV.rp [iv ((whereP (openL r true) x2).getD x8 0)])] [(0,OB.cells 25 (cRun r))] 20304) (by kernel_rfl) (by kernel_rfl) (by kernel_rfl)) ?_
     refine sC (cs:=[(2,CallSpec.eq (c54b r x2 x8 20320) [true]),(4,CallSpec.eq (c54c r x2 x8) [true,false]),(5,CallSpec.eq (c54d r x2 x8) [true,false])]) (kt:=[1,4,24,6,7,25,8,34,35,10,36,13]) (kh:=[0,20352]) (q:=True/\True/\((zE (aWays (openL r true))/\True)/\Triple Try.prog 95 (c54b r x2 x8 20320)/\(0 < (openL r true).length/\(openL r true).length<=65536)/\True /\ ∀ (i10:Env),True)/\True/\((zE (AV.vec 20320)/\True/\True)/\Triple Try.prog 94 (c54c r x2 x8)/\(0 < (openL r true).length/\(openL r true).length<=65536)/\(zE (some (OB.vec 107 19 (openL r true).length fun (i:Nat)=>cWay ((openL r true).getD i default)))/\True) /\ ∀ (i11:Env) (i12:List Value),Env.le E0 i11->i12.length=2->(∀ (k:Nat),Rel i11 true (List.getD [AV.vec 20320,AV.clo 96 [AV.rp [iv (x2:Int)],AV.rp [iv ((whereP (openL r true) x2).getD x8 0)]]] k AV.any) (i12.getD k undef))->fnokOf Try.prog 0 (fun (w:{ w:WayS // w ∈ openL r true })=>[AV.agg (cWay (Subtype.val w))]) (fun (w:{ w:WayS // w ∈ openL r true })=>bv (ofM x2 ((whereP (openL r true) x2).getD x8 0) (Subtype.val w))) (Env.mk i11.1 i11.2 i11.3 fun (k:Nat) (u:Value) => ∃ (i:Nat),[AV.vec 20320,AV.fn 0][i]? = some (AV.fn k)/\i12[i]? = some u))/\((zE (AV.agg (cRun r))/\(19=19/\(delW (openL r true) (ofM x2 ((whereP (openL r true) x2).getD x8 0))).length=(delW (openL r true) (ofM x2 ((whereP (openL r true) x2).getD x8 0))).length /\ ∀ (i16:Nat),i16 < (delW (openL r true) (ofM x2 ((whereP (openL r true) x2).getD x8 0))).length->cWay ((delW (openL r true) (ofM x2 ((whereP (openL r true) x2).getD x8 0))).getD i16 default)=cWay ((delW (openL r true) (ofM x2 ((whereP (openL r true) x2).getD x8 0))).getD i16 default))/\True)/\Triple Try.prog 84 (c54d r x2 x8)/\(fits r/\rb r/\(∀ (i18:WayS),i18 ∈ delW (openL r true) (ofM x2 ((whereP (openL r true) x2).getD x8 0))->wb i18)/\1<=r.plates/\r.plates<=3/\0 < (delW (openL r true) (ofM x2 ((whereP (openL r true) x2).getD x8 0))).length/\(delW (openL r true) (ofM x2 ((whereP (openL r true) x2).getD x8 0))).length<=65536)/\True /\ ∀ (i20:Env),True)/\tn 2) (st':=ASt.mk [(1,.ptr 0 []),(4,aWays (openL r true)),(24,iv (↑(r.found.length):Int)),(6,iv (seekTP r (openL r true) x2).1),(7,iv (seekTP r (openL r true) x2).2),(25,iv (x2:Int)),(8,.rp [iv (x2:Int)]),(34,aInts (whereP (openL r true) x2)),(35,iv (↑((whereP (openL r true) x2).length):Int)),(10,iv (worstTo (fun (m:Int)=>mixOf r (openL r true) x2 m) (whereP (openL r true) x2) x8)),(36,iv (x8:Int)),(13,.ptr 20352 [])] [(0,.cells 25 (cRun r)),(20352,.cells 37 (cSpan (hullOf (delW (openL r true) (ofM x2 ((whereP (openL r true) x2).getD x8 0))) (mixF r))))] 20368) ⟨tv,tv,⟨⟨rfl,tv⟩,(t95o (openL r true) (20320)),⟨(o20 hp h1 x2 hx2 h3 h7 x8 hx8 h9),(o21 hp h1 x2 hx2 h3 h7 x8 hx8 h9)⟩,tv,(fun i10=>tv)⟩,tv,⟨⟨rfl,tv,tv⟩,(t94 _ _ _),⟨(o22 hp h1 x2 hx2 h3 h7 x8 hx8 h9),(o23 hp h1 x2 hx2 h3 h7 x8 hx8 h9)⟩,⟨rfl,tv⟩,(fun i11=>(fun i12=>(fun h13=>(fun h14=>(fun h15=>(o24 E0 hp h1 x2 hx2 h3 h7 x8 hx8 h9 i11 i12 h13 h14 h15))))))⟩,⟨⟨rfl,⟨rfl,rfl,(fun i16=>(fun h17=>rfl))⟩,tv⟩,(t84 _ _),⟨hp,(o25 hp h1 x2 hx2 h3 h7 x8 hx8 h9),(fun i18=>(fun h19=>(o26 hp h1 x2 hx2 h3 h7 x8 hx8 h9 i18 h19))),(o27 hp h1 x2 hx2 h3 h7 x8 hx8 h9),(o28 hp h1 x2 hx2 h3 h7 x8 hx8 h9),(o29 hp h1 x2 hx2 h3 h7 x8 hx8 h9),(o30 hp h1 x2 hx2 h3 h7 x8 hx8 h9)⟩,tv,(fun i20=>tv)⟩,tp 2⟩ ?_
     refine sQ (kt:=[1,4,24,6,7,25,8,34,35,10,36]) (kh:=[0]) (q:=True/\True/\True/\True/\True/\inI ((hullOf (delW (openL r true) (ofM x2 ((whereP (openL r true) x2).getD x8 0))) (mixF r)).hi - (hullOf (delW (openL r true) (ofM x2 ((whereP (openL r true) x2).getD x8 0))) (mixF r)).lo)/\tn 2) (st':=ASt.mk [(1,.ptr 0 []),(4,aWays (openL r true)),(24,iv (↑(r.found.length):Int)),(6,iv (seekTP r (openL r true) x2).1),(7,iv (seekTP r (openL r true) x2).2),(25,iv (x2:Int)),(8,.rp [iv (x2:Int)]),(34,aInts (whereP (openL r true) x2)),(35,iv (↑((whereP (openL r true) x2).length):Int)),(10,iv (max (worstTo (fun (m:Int)=>mixOf r (openL r true) x2 m) (whereP (openL r true) x2) x8) ((hullOf (delW (openL r true) (ofM x2 ((whereP (openL r true) x2).getD x8 0))) (mixF r)).hi - (hullOf (delW (openL r true) (ofM x2 ((whereP (openL r true) x2).getD x8 0))) (mixF r)).lo))),(36,iv (x8:Int))] [(0,.cells 25 (cRun r))] 20432) ⟨tv,tv,tv,tv,tv,(o31 hp h1 x2 hx2 h3 h7 x8 hx8 h9),tp 2⟩ ?_
     refine sQ (kt:=[1,4,24,6,7,25,8,34,35,10,36]) (kh:=[0]) (q:=inI ((x8:Int) + 1)/\True/\True) (st':=ASt.mk [(1,.ptr 0 []),(4,aWays (openL r true)),(24,iv (↑(r.found.length):Int)),(6,iv (seekTP r (openL r true) x2).1),(7,iv (seekTP r (openL r true) x2).2),(25,iv (x2:Int)),(8,.rp [iv (x2:Int)]),(34,aInts (whereP (openL r true) x2)),(35,iv (↑((whereP (openL r true) x2).length):Int)),(10,iv (max (worstTo (fun (m:Int)=>mixOf r (openL r true) x2 m) (whereP (openL r true) x2) x8) ((hullOf (delW (openL r true) (ofM x2 ((whereP (openL r true) x2).getD x8 0))) (mixF r)).hi - (hullOf (delW (openL r true) (ofM x2 ((whereP (openL r true) x2).getD x8 0))) (mixF r)).lo))),(36,iv ((x8:Int) + 1))] [(0,.cells 25 (cRun r))] 20448) ⟨(o32 hp h1 x2 hx2 h3 h7 x8 hx8 h9),tv,tv⟩ ?_
     exact loop_next (z54_1 r x2) x8 (eQ hE [] [(0,.same 0)] [4,24,6,7,25,8,34,35] [0] (((zP 0)/\(zT (aWays (openL r true)))/\(zT (iv (↑(r.found.length):Int)))/\(zT (iv (seekTP r (openL r true) x2).1))/\(zT (iv (seekTP r (openL r true) x2).2))/\(zT (iv (x2:Int)))/\(zT (AV.rp [iv (x2:Int)]))/\(zT (aInts (whereP (openL r true) x2)))/\(zT (iv (↑((whereP (openL r true) x2).length):Int)))/\(zN (iv (max (worstTo (fun (m:Int)=>mixOf r (openL r true) x2 m) (whereP (openL r true) x2) x8) ((hullOf (delW (openL r true) (ofM x2 ((whereP (openL r true) x2).getD x8 0))) (mixF r)).hi - (hullOf (delW (openL r true) (ofM x2 ((whereP (openL r true) x2).getD x8 0))) (mixF r)).lo))) (iv (worstTo (fun (m:Int)=>mixOf r (openL r true) x2 m) (whereP (openL r true) x2) (x8 + 1))))/\(zN (iv ((x8:Int) + 1)) (iv (↑(x8 + 1):Int)))/\True)/\((zT (OB.cells 25 (cRun r)))/\True)/\T2) ⟨⟨⟨rfl,rfl⟩,⟨rfl,rfl⟩,⟨rfl,rfl⟩,⟨rfl,rfl⟩,⟨rfl,rfl⟩,⟨rfl,rfl⟩,⟨rfl,rfl⟩,⟨rfl,rfl⟩,⟨rfl,rfl⟩,⟨(congrArg iv (o33 hp h1 x2 hx2 h3 h7 x8 hx8 h9)),rfl⟩,⟨(congrArg iv (o34 hp h1 x2 hx2 h3 h7 x8 hx8 h9)),rfl⟩,tv⟩,⟨⟨rfl,rfl⟩,tv⟩,rfl,rfl⟩) (o35 hp h1 x2 hx2 h3 h7 x8 hx8 h9) (o36 hp h1 x2 hx2 h3 h7 x8 hx8 h9)
    ·refine swp_exit (swp_seq ?_)
     refine sQ (kt:=[1,4,24,6,7,25,8,10,60]) (kh:=[0]) (q:=True/\True/\True/\((!decide ((seekTP r (openL r true) x2).1 < 0))->(True/\True)/\True)/\((!decide ((seekTP r (openL r true) x2).1 < 0))->(True/\True)/\True)/\((!decide ((seekTP r (openL r true) x2).1 < 0))->(((!decide ((seekTP r (openL r true) x2).1 < 0))->(!decide ((seekTP r (openL r true) x2).1 < 0))=true)/\((!decide ((seekTP r (openL r true) x2).1 < 0))->(!decide ((seekTP r (openL r true) x2).1 < 0))=true)/\True)/\True)/\((decide ((seekTP r (openL r true) x2).1 < 0)=true->True)/\(decide ((seekTP r (openL r true) x2).1 < 0)=false->(!decide ((seekTP r (openL r true) x2).1 < 0))=true))/\True) (st':=ASt.mk [(1,.ptr 0 []),(4,aWays (openL r true)),(24,iv (↑(r.found.length):Int)),(6,iv (seekTP r (openL r true) x2).1),(7,iv (seekTP r (openL r true) x2).2),(25,iv (x2:Int)),(8,.rp [iv (x2:Int)]),(10,iv (worstTo (fun (m:Int)=>mixOf r (openL r true) x2 m) (whereP (openL r true) x2) x8)),(60,bv (bif decide ((seekTP r (openL r true) x2).1 < 0) then true else decide (worstTo (fun (m:Int)=>mixOf r (openL r true) x2 m) (whereP (openL r true) x2) x8 < (seekTP r (openL r true) x2).2)))] [(0,.cells 25 (cRun r))] 20328) ⟨tv,tv,tv,(fun h21=>⟨⟨tv,tv⟩,tv⟩),(fun h22=>⟨⟨tv,tv⟩,tv⟩),(fun h23=>⟨⟨(fun h24=>h23),(fun h25=>h23),tv⟩,tv⟩),⟨(fun h26=>tv),(fun h27=>(o37 hp h1 x2 hx2 h3 h7 x8 hx8 h9 h27))⟩,tv⟩ ?_
     refine swp_cond (bif decide ((seekTP r (openL r true) x2).1 < 0) then true else decide (worstTo (fun (m:Int)=>mixOf r (openL r true) x2 m) (whereP (openL r true) x2) x8 < (seekTP r (openL r true) x2).2)) (by kernel_rfl) (fun h28 => ?_) (fun h28 => ?_)
     ·refine sQ (kt:=[1,4,24,6,7,25]) (kh:=[0]) (q:=tn 4) (st':=ASt.mk [(1,.ptr 0 []),(4,aWays (openL r true)),(24,iv (↑(r.found.length):Int)),(6,iv (x2:Int)),(7,iv (worstTo (fun (m:Int)=>mixOf r (openL r true) x2 m) (whereP (openL r true) x2) x8)),(25,iv (x2:Int))] [(0,.cells 25 (cRun r))] 20360) (tp 4) ?_
      refine sQ (kt:=[1,4,24,6,7,25]) (kh:=[0]) (q:=inI ((x2:Int) + 1)/\True/\True) (st':=ASt.mk [(1,.ptr 0 []),(4,aWays (openL r true)),(24,iv (↑(r.found.length):Int)),(6,iv (x2:Int)),(7,iv (worstTo (fun (m:Int)=>mixOf r (openL r true) x2 m) (whereP (openL r true) x2) x8)),(25,iv ((x2:Int) + 1))] [(0,.cells 25 (cRun r))] 20376) ⟨(o38 hp h1 x2 hx2 h3 h7 x8 hx8 h9 h28),tv,tv⟩ ?_
      exact loop_next (z54_2 r) x2 (eQ hE [] [(0,.same 0)] [4,24] [0] (((zP 0)/\(zT (aWays (openL r true)))/\(zT (iv (↑(r.found.length):Int)))/\(zN (iv (x2:Int)) (iv (seekTP r (openL r true) (x2 + 1)).1))/\(zN (iv (worstTo (fun (m:Int)=>mixOf r (openL r true) x2 m) (whereP (openL r true) x2) x8)) (iv (seekTP r (openL r true) (x2 + 1)).2))/\(zN (iv ((x2:Int) + 1)) (iv (↑(x2 + 1):Int)))/\True)/\((zT (OB.cells 25 (cRun r)))/\True)/\T2) ⟨⟨⟨rfl,rfl⟩,⟨rfl,rfl⟩,⟨rfl,rfl⟩,⟨(congrArg iv (o39 hp h1 x2 hx2 h3 h7 x8 hx8 h9 h28)),rfl⟩,⟨(congrArg iv (o40 hp h1 x2 hx2 h3 h7 x8 hx8 h9 h28)),rfl⟩,⟨(congrArg iv (o41 hp h1 x2 hx2 h3 h7 x8 hx8 h9 h28)),rfl⟩,tv⟩,⟨⟨rfl,rfl⟩,tv⟩,rfl,rfl⟩) (o42 hp h1 x2 hx2 h3 h7 x8 hx8 h9 h28) (o43 hp h1 x2 hx2 h3 h7 x8 hx8 h9 h28)
     ·refine swp_skip ?_
      refine sQ (kt:=[1,4,24,6,7,25]) (kh:=[0]) (q:=inI ((x2:Int) + 1)/\True/\True) (st':=ASt.mk [(1,.ptr 0 []),(4,aWays (openL r true)),(24,iv (↑(r.found.length):Int)),(6,iv (seekTP r (openL r true) x2).1),(7,iv (seekTP r (openL r true) x2).2),(25,iv ((x2:Int) + 1))] [(0,.cells 25 (cRun r))] 20344) ⟨(o44 hp h1 x2 hx2 h3 h7 x8 hx8 h9 h28),tv,tv⟩ ?_
      exact loop_next (z54_2 r) x2 (eQ hE [] [(0,.same 0)] [4,24] [0] (((zP 0)/\(zT (aWays (openL r true)))/\(zT (iv (↑(r.found.length):Int)))/\(zN (iv (seekTP r (openL r true) x2).1) (iv (seekTP r (openL r true) (x2 + 1)).1))/\(zN (iv (seekTP r (openL r true) x2).2) (iv (seekTP r (openL r true) (x2 + 1)).2))/\(zN (iv ((x2:Int) + 1)) (iv (↑(x2 + 1):Int)))/\True)/\((zT (OB.cells 25 (cRun r)))/\True)/\T2) ⟨⟨⟨rfl,rfl⟩,⟨rfl,rfl⟩,⟨rfl,rfl⟩,⟨(congrArg iv (o45 hp h1 x2 hx2 h3 h7 x8 hx8 h9 h28)),rfl⟩,⟨(congrArg iv (o46 hp h1 x2 hx2 h3 h7 x8 hx8 h9 h28)),rfl⟩,⟨(congrArg iv (o47 hp h1 x2 hx2 h3 h7 x8 hx8 h9 h28)),rfl⟩,tv⟩,⟨⟨rfl,rfl⟩,tv⟩,rfl,rfl⟩) (o48 hp h1 x2 hx2 h3 h7 x8 hx8 h9 h28) (o49 hp h1 x2 hx2 h3 h7 x8 hx8 h9 h28)
  ·refine swp_exit (swp_seq (swp_seq ?_))
   refine sQ (kt:=[6,65]) (kh:=[]) (q:=tn 2) (st':=ASt.mk [(6,iv (seekTP r (openL r true) x2).1),(65,bv (decide ((seekTP r (openL r true) x2).1 < 0)))] [] 10168) (tp 2) ?_
   refine swp_cond (decide ((seekTP r (openL r true) x2).1 < 0)) (by kernel_rfl) (fun h29 => ?_) (fun h29 => ?_)
   ·refine swp_seq ?_
    refine sQ (kt:=[2,3]) (kh:=[]) (q:=tn 2) (st':=ASt.mk [(2,iv 0),(3,iv 3)] [] 10184) (tp 2) ?_
    refine swp_ret ?_
    exact rQ [] ((True/\True/\True)/\((zN (iv 0) (iv (seekP r).1))/\(zN (iv 3) (iv (seekP r).2))/\True)/\T3) ⟨⟨tv,tv,tv⟩,⟨⟨(congrArg iv (o50 hp h1 x2 hx2 h3 h29)),rfl⟩,⟨(congrArg iv (o51 hp h1 x2 hx2 h3 h29)),rfl⟩,tv⟩,rfl,rfl,rfl⟩
   ·refine swp_skip (swp_seq ?_)
    refine sQ (kt:=[2,3]) (kh:=[]) (q:=tn 3) (st':=ASt.mk [(2,iv (seekTP r (openL r true) x2).1),(3,iv 0)] [] 10192) (tp 3) ?_
    refine swp_ret ?_
    exact rQ [] ((True/\True/\True)/\((zN (iv (seekTP r (openL r true) x2).1) (iv (seekP r).1))/\(zN (iv 0) (iv (seekP r).2))/\True)/\T3) ⟨⟨tv,tv,tv⟩,⟨⟨(congrArg iv (o52 hp h1 x2 hx2 h3 h29)),rfl⟩,⟨(congrArg iv (o53 hp h1 x2 hx2 h3 h29)),rfl⟩,tv⟩,rfl,rfl,rfl⟩
theorem t54 (r:Run):Triple Try.prog 54 (s54 r):=by
 apply w54
 all_goals (first | ((repeat intro _) <;> (try simp only [v0,v1,v2,v3,v4,v5,v6,v7,v8,v9,inI,fits,Go.Sh.small] at *) <;> first | (exact rfl) | omega | exact vz | (simp_all; done) | (simp_all; omega)) | skip)
 case o0=>intro _ h; rw [seekP_bad (openBad h)]
 case o1=>intro _ h; rw [seekP_bad (openBad h)]
 case o24 =>
  intro E0 hfit h x hx hl h2 y hy hyl E us le hlen2 hr
  have F:=openF h
  simp only [decide_eq_true_eq] at hl hyl
  refine fnok_arg (vals:=[.vec 20320,.clo 96 [.rp [iv x],.rp [iv ((whereP (openL r true) x).getD y 0)]]]) 1 (fun j' h => ?_) (fun E u hu w=>fnok_clo (caps:=[.rp [iv x],.rp [iv ((whereP (openL r true) x).getD y 0)]]) (s96 w.1 x ((whereP (openL r true) x).getD y 0)) (t96 w.1 _ _) rfl ?_ (fun _=>trivial) rfl rfl rfl rfl rfl hu) E us le hlen2 hr
  ·match j',h with
   | 0,h=>cases h
   | 1,_=>rfl
   | n + 2,h=>simp at h
  ·obtain ⟨i,hi,e⟩:=List.getElem_of_mem w.2
   have:=F.frm i hi
   rw [Go.Ab.getD_lt _ _ hi,e] at this
   show x < w.1.frm.length
   omega
 all_goals (intro hfit h; have F:=openF h; have hfl:=F.ok.found; have hlen:=F.len; have hpos:=F.pos; intro x hx hl; simp only [decide_eq_true_eq,decide_eq_false_iff_not] at hl)
 case o50 | o51 =>
  intro hn
  have e:x=r.found.length:=by omega
  simp only [decide_eq_true_eq] at hn
  rw [seekP,if_pos F.zero,← F.eq,← e,seekOf,if_pos hn]
 case o52 | o53 =>
  intro hn
  have e:x=r.found.length:=by omega
  simp only [decide_eq_false_iff_not] at hn
  have hs:seekP r=((seekTP r (openL r true) x).1,0):=by rw [seekP,if_pos F.zero,← F.eq,← e,seekOf,if_neg hn]
  rw [hs]
 case o6=>omega
 case o7=>omega
 case o8=>intro i hi; rw [F.frm i hi]; omega
 case o10 | o11=>intro h2; rw [seekTP_skip (by simpa using h2)]
 all_goals (intro h2; simp only [decide_eq_false_iff_not] at h2; intro y hy hyl; simp only [decide_eq_true_eq,decide_eq_false_iff_not] at hyl)
 case o20 | o21 | o22 | o23=>omega
 case o25=>exact rb_of F.ok
 case o26=>intro w hw; exact F.wb w (mem_delW.1 hw).1
 case o27=>exact F.ok.plates.1
 case o28=>exact F.ok.plates.2
 case o29=>exact delW_pos (by omega)
 case o30=>exact Nat.le_trans (List.length_filter_le _ _) (by omega)
 case o31 =>
  have:=mixOf_in F.ok (delW_pos (l:=openL r true) (f:=x) (i:=y) (by omega)) (fun w hw=>by rw [← F.eq]; exact (mem_delW.1 hw).1)
  exact ⟨by omega,by omega⟩
 case o32 =>
  have hb:(whereP (openL r true) x).length<=3:=by rw [F.eq,where_ways F.ok (by omega)]; exact Nat.le_trans (whTo_len _ _ _) F.ok.machines.2
  exact ⟨by omega,by omega⟩
 case o33=>rw [worstTo_succ]; rfl
 all_goals (have e:y=(whereP (openL r true) x).length:=by omega)
 all_goals (intro hb; have hiff:=seek_b hb)
 case o39=>rw [e] at hiff; rw [seekTP_t h2 (hiff.1 rfl)]
 case o40=>rw [e] at hiff ⊢; rw [seekTP_t h2 (hiff.1 rfl)]; rfl
 case o45 | o46=>rw [e] at hiff; rw [seekTP_f h2 (fun hh=>by have:=hiff.2 hh; cases this)]
end Go.Ab
namespace Go.Sh
structure One (r:Run):Prop where
 ok:Ok r
 zero:∀ is,is=true->rfE r is=0
 pos:0 < (fromsOf r).length
end Go.Sh
namespace Go.Sh
structure Tld where
 when:List Span
 old:List Span
 whr:List (List Int)
 mixed:List Int
 mixes:Span
 fewest:Int
 deriving DecidableEq,Inhabited
structure Clear (x y:Tld):Prop where
 wl:x.when.length=y.when.length/\x.when.length<=65536
 ol:x.old.length=y.old.length/\x.old.length<=65536
 ml:x.mixed.length=y.mixed.length/\x.mixed.length<=65536
 hl:y.whr.length<=x.whr.length/\x.whr.length<=65536
 mixes:inside x.mixes y.mixes=true
 few:y.fewest<=x.fewest
 when:∀ i,i < x.when.length->inside (x.when.getD i default) (y.when.getD i default)=true
 old:∀ i,i < x.old.length->inside (x.old.getD i default) (y.old.getD i default)=true
 mixed:∀ i,i < x.mixed.length->y.mixed.getD i 0=3 ∨ x.mixed.getD i 0=y.mixed.getD i 0
 whr:∀ i,i < y.whr.length->(∀ k,k < (x.whr.getD i []).length->isIn (y.whr.getD i []) ((x.whr.getD i []).getD k 0)=true)/\(x.whr.getD i []).length<=65536/\(y.whr.getD i []).length<=65536
structure Finer (o r:Run) (φ:List Int->List Int):Prop where
 ro:One r
 oo:One o
 ml:o.machines.length=r.machines.length
 pl:o.plates=r.plates
 rate:∀ m,m < r.machines.length->(mach o m).rate=(mach r m).rate
 mem:∀ x,x ∈ fromsOf o->φ x ∈ fromsOf r
 span:∀ x,x ∈ fromsOf o -> ∀ m,m < r.machines.length -> ∀ p:Nat,(p:Int) < r.plates->(spanOf r (φ x) m p).lo<=(spanOf o x m p).lo/\(spanOf o x m p).hi<=(spanOf r (φ x) m p).hi
 sub:∀ x,x ∈ fromsOf o -> ∀ v,v ∈ φ x->v ∈ x
end Go.Sh
namespace Go.Sh
structure TellF (r:Run):Prop where
 okb:okRun r=true
 one:One r
end Go.Sh
namespace Go.En
open Go Go.Ab Go.Sh
end Go.En
namespace Go.Ab
open Go Go.RowKit Go.Proofs Go.Sh Go.En
end Go.Ab
namespace Go.Ab
open Go Go.RowKit Go.Proofs Go.Sh Go.En
end Go.Ab
namespace Go.Sh
end Go.Sh
namespace Go.Sh
def rotIdx (F a i:Nat):Nat:=(i + a) % F
end Go.Sh
namespace Go.Sh
def end0 (s:Span):Int:=s.lo - 1
end Go.Sh
namespace Go.Ab
open Go Go.RowKit Go.Proofs Go.Sh Go.En
def h7 (r:Run) (m p:Int):Hint:={ X:=Int,M:=fun n=>[(12,iv n)],I:=fun n=>end0 (whenS r m p)<=n/\n<=(whenS r m p).hi + 2,mu:=fun n=>((whenS r m p).hi + 2 - n).toNat,x0:=end0 (whenS r m p),nx:=fun n=>n + 1 }
end Go.Ab
namespace Go.Ab
open Go Go.RowKit Go.Proofs Go.Sh Go.En
end Go.Ab
namespace Go.Sh
def rfnd (r:Run) (a i k:Nat):Fnd:=if k < i then fnd r (rotIdx r.found.length a k) else fnd r k
end Go.Sh
namespace Go.Ab
open Go Go.RowKit Go.Proofs Go.Sh Go.En
def h11 (r:Run) (a:Int):Hint:={ X:=Nat,M:=fun i=>[(6,iv i),(5,.ptr 5000 [])],H:=fun i=>[(5000,.cells 25 [iv r.plates,iv r.last,.vec 5001,.vec 5002]),(5001,.vec 42 2 r.machines.length (fun k=>cMach (mach r k))),(5002,.vec 32 3 r.found.length (fun k=>cFnd (rfnd r a.toNat i k)))],I:=fun i=>i<=r.found.length,mu:=fun i=>r.found.length - i,x0:=(0:Nat),nx:=fun i=>i + 1 }
end Go.Ab
namespace Go.Ab
open Go Go.RowKit Go.Proofs Go.Sh Go.En
def s15 (r:Run) (p m:Int):CallSpec:={ args:=[vRun r,iv p,iv m],res:=bv true,pre:=fits r }
end Go.Ab
namespace Go.Ab
open Go Go.RowKit Go.Proofs Go.Sh Go.En
abbrev q15_1 (r:Run) (p:Int) (m:Int) (C:Prop):Prop:=fits r->far r=false->C
theorem w15 (r:Run) (p:Int) (m:Int)
 (o0:q15_1 r p m (small r))
 (o1:q15_1 r p m ((!(decide ((oldS r p).lo=(oldR r p).lo) && (decide ((oldS r p).hi=(oldR r p).hi) && true)))=false->(!!(decide ((oldS r p).lo=(oldR r p).lo) && (decide ((oldS r p).hi=(oldR r p).hi) && true)))=true))
 (o2:q15_1 r p m ((bif !(decide ((oldS r p).lo=(oldR r p).lo) && (decide ((oldS r p).hi=(oldR r p).hi) && true)) then true else !decide (openE r (isPlate r p)=rfE r (isPlate r p)))=false->(!bif !(decide ((oldS r p).lo=(oldR r p).lo) && (decide ((oldS r p).hi=(oldR r p).hi) && true)) then true else !decide (openE r (isPlate r p)=rfE r (isPlate r p)))=true))
 (o3:q15_1 r p m ((bif bif !(decide ((oldS r p).lo=(oldR r p).lo) && (decide ((oldS r p).hi=(oldR r p).hi) && true)) then true else !decide (openE r (isPlate r p)=rfE r (isPlate r p)) then true else !decide (mixedS r m=mixedR r m))=false->(!bif bif !(decide ((oldS r p).lo=(oldR r p).lo) && (decide ((oldS r p).hi=(oldR r p).hi) && true)) then true else !decide (openE r (isPlate r p)=rfE r (isPlate r p)) then true else !decide (mixedS r m=mixedR r m))=true))
 (o4:q15_1 r p m ((bif bif bif !(decide ((oldS r p).lo=(oldR r p).lo) && (decide ((oldS r p).hi=(oldR r p).hi) && true)) then true else !decide (openE r (isPlate r p)=rfE r (isPlate r p)) then true else !decide (mixedS r m=mixedR r m) then true else !decide (openE r (isMachine r m)=rfE r (isMachine r m)))=true->false=true))
 (o5:q15_1 r p m ((bif bif bif !(decide ((oldS r p).lo=(oldR r p).lo) && (decide ((oldS r p).hi=(oldR r p).hi) && true)) then true else !decide (openE r (isPlate r p)=rfE r (isPlate r p)) then true else !decide (mixedS r m=mixedR r m) then true else !decide (openE r (isMachine r m)=rfE r (isMachine r m)))=false->(bif bif bif bif bif decide ((mixesS r).lo=(mixesR r).lo) && (decide ((mixesS r).hi=(mixesR r).hi) && true) then decide (openE r true=rfE r true) else false then decide ((seekP r).1=(seekR r).1) else false then decide ((seekP r).2=(seekR r).2) else false then true else false then true else false)=true)) :
  Triple Try.prog 15 (s15 r p m):=by
 refine triple_of Try.func15 rfl Try.call15 T0_ok _ rfl rfl rfl rfl (Nat.le_of_ble_eq_true (by kernel_rfl)) (fun _ _ _ _ h=>h) ?_
 intro hp C hC _ hE
 obtain ⟨P,w0,E0,av,hA⟩:=C
 subst hC
 refine swp_seq ?_
 refine sQ (kt:=[1,2,3]) (kh:=[0]) (q:=tn 2) (st':=ASt.mk [(1,iv p),(2,iv m),(3,.ptr 0 [])] [(0,.cells 25 (cRun r))] 16) (tp 2) ?_
 refine swp_seq (swp_seq ?_)
 refine sC (cs:=[(1,CallSpec.eq (s30 r) [true])]) (kt:=[1,2,3,19]) (kh:=[0]) (q:=True/\((zE (AV.agg (cRun r))/\True)/\Triple Try.prog 30 (s30 r)/\fits r/\True /\ ∀ (i0:Env),True)/\True) (st':=ASt.mk [(1,iv p),(2,iv m),(3,.ptr 0 []),(19,bv (far r))] [(0,.cells 25 (cRun r))] 32) ⟨tv,⟨⟨rfl,tv⟩,(t30 (r)),hp,tv,(fun i0=>tv)⟩,tv⟩ ?_
 refine swp_cond (far r) (by kernel_rfl) (fun h1 => ?_) (fun h1 => ?_)
 ·refine swp_seq ?_
  refine sC (cs:=[(0,CallSpec.eq s19 [])]) (kt:=[6]) (kh:=[]) (q:=(True/\Triple Try.prog 19 s19/\True/\True /\ ∀ (i2:Env),True)/\True/\True) (st':=ASt.mk [(6,bv true)] [] 48) ⟨⟨tv,(t19),tv,tv,(fun i2=>tv)⟩,tv,tv⟩ ?_
  refine swp_ret ?_
  exact rQ [] ((True/\True)/\(zM (bv true))/\T3) ⟨⟨tv,tv⟩,⟨rfl,rfl⟩,rfl,rfl,rfl⟩
 ·refine swp_skip (swp_seq ?_)
  refine sC (cs:=[(1,CallSpec.eq (s20 r) [true])]) (kt:=[1,2,3,7]) (kh:=[0,48]) (q:=True/\((zE (AV.agg (cRun r))/\True)/\Triple Try.prog 20 (s20 r)/\small r/\True /\ ∀ (i3:Env),True)/\tn 2) (st':=ASt.mk [(1,iv p),(2,iv m),(3,.ptr 0 []),(7,.ptr 48 [])] [(0,.cells 25 (cRun r)),(48,.cells 25 (cRun r))] 64) ⟨tv,⟨⟨rfl,tv⟩,(t20 (r)),(o0 hp h1),tv,(fun i3=>tv)⟩,tp 2⟩ ?_
  refine swp_seq ?_
  refine sC (cs:=[(2,CallSpec.eq (s26 r p) [true,true])]) (kt:=[1,2,3,7,8,9]) (kh:=[0,48,112]) (q:=True/\True/\((zE (AV.agg (cRun r))/\iv p=iv p/\True)/\Triple Try.prog 26 (s26 r p)/\fits r/\True /\ ∀ (i4:Env),True)/\tn 6) (st':=ASt.mk [(1,iv p),(2,iv m),(3,.ptr 0 []),(7,.ptr 48 []),(8,.ptr 112 []),(9,iv (openE r (isPlate r p)))] [(0,.cells 25 (cRun r)),(48,.cells 25 (cRun r)),(112,.cells 37 (cSpan (oldS r p)))] 136) ⟨tv,tv,⟨⟨rfl,rfl,tv⟩,(t26 (r) (p)),hp,tv,(fun i4=>tv)⟩,tp 6⟩ ?_
  refine swp_seq ?_
  refine sC (cs:=[(2,CallSpec.eq (s66 r p) [true,true])]) (kt:=[2,3,7,8,9,10,11]) (kh:=[0,48,112,184]) (q:=True/\True/\((zE (AV.agg (cRun r))/\iv p=iv p/\True)/\Triple Try.prog 66 (s66 r p)/\fits r/\True /\ ∀ (i5:Env),True)/\tn 6) (st':=ASt.mk [(2,iv m),(3,.ptr 0 []),(7,.ptr 48 []),(8,.ptr 112 []),(9,iv (openE r (isPlate r p))),(10,.ptr 184 []),(11,iv (rfE r (isPlate r p)))] [(0,.cells 25 (cRun r)),(48,.cells 25 (cRun r)),(112,.cells 37 (cSpan (oldS r p))),(184,.cells 37 (cSpan (oldR r p)))] 208) ⟨tv,tv,⟨⟨rfl,rfl,tv⟩,(t66 (r) (p)),hp,tv,(fun i5=>tv)⟩,tp 6⟩ ?_
  refine swp_seq ?_
  refine sC (cs:=[(2,CallSpec.eq (s65 r m) [true,true])]) (kt:=[2,3,7,8,9,10,11,12,13]) (kh:=[0,48,112,184]) (q:=True/\True/\((zE (AV.agg (cRun r))/\iv m=iv m/\True)/\Triple Try.prog 65 (s65 r m)/\fits r/\True /\ ∀ (i6:Env),True)/\tn 5) (st':=ASt.mk [(2,iv m),(3,.ptr 0 []),(7,.ptr 48 []),(8,.ptr 112 []),(9,iv (openE r (isPlate r p))),(10,.ptr 184 []),(11,iv (rfE r (isPlate r p))),(12,iv (mixedS r m)),(13,iv (openE r (isMachine r m)))] [(0,.cells 25 (cRun r)),(48,.cells 25 (cRun r)),(112,.cells 37 (cSpan (oldS r p))),(184,.cells 37 (cSpan (oldR r p)))] 272) ⟨tv,tv,⟨⟨rfl,rfl,tv⟩,(t65 (r) (m)),hp,tv,(fun i6=>tv)⟩,tp 5⟩ ?_
  refine swp_seq ?_
  refine sC (cs:=[(2,CallSpec.eq (s67 r m) [true,true])]) (kt:=[3,7,8,9,10,11,12,13,14,15]) (kh:=[0,48,112,184]) (q:=True/\True/\((zE (AV.agg (cRun r))/\iv m=iv m/\True)/\Triple Try.prog 67 (s67 r m)/\fits r/\True /\ ∀ (i7:Env),True)/\tn 5) (st':=ASt.mk [(3,.ptr 0 []),(7,.ptr 48 []),(8,.ptr 112 []),(9,iv (openE r (isPlate r p))),(10,.ptr 184 []),(11,iv (rfE r (isPlate r p))),(12,iv (mixedS r m)),(13,iv (openE r (isMachine r m))),(14,iv (mixedR r m)),(15,iv (rfE r (isMachine r m)))] [(0,.cells 25 (cRun r)),(48,.cells 25 (cRun r)),(112,.cells 37 (cSpan (oldS r p))),(184,.cells 37 (cSpan (oldR r p)))] 336) ⟨tv,tv,⟨⟨rfl,rfl,tv⟩,(t67 (r) (m)),hp,tv,(fun i7=>tv)⟩,tp 5⟩ ?_
  refine swp_seq (swp_seq ?_)
  refine sQ (kt:=[3,7,8,10,64]) (kh:=[0,48,112,184]) (q:=True/\True/\True/\True/\((!!(decide ((oldS r p).lo=(oldR r p).lo) && (decide ((oldS r p).hi=(oldR r p).hi) && true)))=true->(True/\True)/\True)/\((!!(decide ((oldS r p).lo=(oldR r p).lo) && (decide ((oldS r p).hi=(oldR r p).hi) && true)))=true->(True/\True)/\True)/\((!!(decide ((oldS r p).lo=(oldR r p).lo) && (decide ((oldS r p).hi=(oldR r p).hi) && true)))=true->(((!!(decide ((oldS r p).lo=(oldR r p).lo) && (decide ((oldS r p).hi=(oldR r p).hi) && true)))=true->(!!(decide ((oldS r p).lo=(oldR r p).lo) && (decide ((oldS r p).hi=(oldR r p).hi) && true)))=true)/\((!!(decide ((oldS r p).lo=(oldR r p).lo) && (decide ((oldS r p).hi=(oldR r p).hi) && true)))=true->(!!(decide ((oldS r p).lo=(oldR r p).lo) && (decide ((oldS r p).hi=(oldR r p).hi) && true)))=true)/\True)/\True)/\(((!(decide ((oldS r p).lo=(oldR r p).lo) && (decide ((oldS r p).hi=(oldR r p).hi) && true)))=true->True)/\((!(decide ((oldS r p).lo=(oldR r p).lo) && (decide ((oldS r p).hi=(oldR r p).hi) && true)))=false->(!!(decide ((oldS r p).lo=(oldR r p).lo) && (decide ((oldS r p).hi=(oldR r p).hi) && true)))=true))/\True/\((!bif !(decide ((oldS r p).lo=(oldR r p).lo) && (decide ((oldS r p).hi=(oldR r p).hi) && true)) then true else !decide (openE r (isPlate r p)=rfE r (isPlate r p)))=true->(True/\True)/\True)/\((!bif !(decide ((oldS r p).lo=(oldR r p).lo) && (decide ((oldS r p).hi=(oldR r p).hi) && true)) then true else !decide (openE r (isPlate r p)=rfE r (isPlate r p)))=true->(True/\True)/\True)/\((!bif !(decide ((oldS r p).lo=(oldR r p).lo) && (decide ((oldS r p).hi=(oldR r p).hi) && true)) then true else !decide (openE r (isPlate r p)=rfE r (isPlate r p)))=true->(((!bif !(decide ((oldS r p).lo=(oldR r p).lo) && (decide ((oldS r p).hi=(oldR r p).hi) && true)) then true else !decide (openE r (isPlate r p)=rfE r (isPlate r p)))=true->(!bif !(decide ((oldS r p).lo=(oldR r p).lo) && (decide ((oldS r p).hi=(oldR r p).hi) && true)) then true else !decide (openE r (isPlate r p)=rfE r (isPlate r p)))=true)/\((!bif !(decide ((oldS r p).lo=(oldR r p).lo) && (decide ((oldS r p).hi=(oldR r p).hi) && true)) then true else !decide (openE r (isPlate r p)=rfE r (isPlate r p)))=true->(!bif !(decide ((oldS r p).lo=(oldR r p).lo) && (decide ((oldS r p).hi=(oldR r p).hi) && true)) then true else !decide (openE r (isPlate r p)=rfE r (isPlate r p)))=true)/\True)/\True)/\(((bif !(decide ((oldS r p).lo=(oldR r p).lo) && (decide ((oldS r p).hi=(oldR r p).hi) && true)) then true else !decide (openE r (isPlate r p)=rfE r (isPlate r p)))=true->True)/\((bif !(decide ((oldS r p).lo=(oldR r p).lo) && (decide ((oldS r p).hi=(oldR r p).hi) && true)) then true else !decide (openE r (isPlate r p)=rfE r (isPlate r p)))=false->(!bif !(decide ((oldS r p).lo=(oldR r p).lo) && (decide ((oldS r p).hi=(oldR r p).hi) && true)) then true else !decide (openE r (isPlate r p)=rfE r (isPlate r p)))=true))/\True/\((!bif bif !(decide ((oldS r p).lo=(oldR r p).lo) && (decide ((oldS r p).hi=(oldR r p).hi) && true)) then true else !decide (openE r (isPlate r p)=rfE r (isPlate r p)) then true else !decide (mixedS r m=mixedR r m))=true->(True/\True)/\True)/\((!bif bif !(decide ((oldS r p).lo=(oldR r p).lo) && (decide ((oldS r p).hi=(oldR r p).hi) && true)) then true else !decide (openE r (isPlate r p)=rfE r (isPlate r p)) then true else !decide (mixedS r m=mixedR r m))=true->(True/\True)/\True)/\((!bif bif !(decide ((oldS r p).lo=(oldR r p).lo) && (decide ((oldS r p).hi=(oldR r p).hi) && true)) then true else !decide (openE r (isPlate r p)=rfE r (isPlate r p)) then true else !decide (mixedS r m=mixedR r m))=true->(((!bif bif !(decide ((oldS r p).lo=(oldR r p).lo) && (decide ((oldS r p).hi=(oldR r p).hi) && true)) then true else !decide (openE r (isPlate r p)=rfE r (isPlate r p)) then true else !decide (mixedS r m=mixedR r m))=true->(!bif bif !(decide ((oldS r p).lo=(oldR r p).lo) && (decide ((oldS r p).hi=(oldR r p).hi) && true)) then true else !decide (openE r (isPlate r p)=rfE r (isPlate r p)) then true else !decide (mixedS r m=mixedR r m))=true)/\((!bif bif !(decide ((oldS r p).lo=(oldR r p).lo) && (decide ((oldS r p).hi=(oldR r p).hi) && true)) then true else !decide (openE r (isPlate r p)=rfE r (isPlate r p)) then true else !decide (mixedS r m=mixedR r m))=true->(!bif bif !(decide ((oldS r p).lo=(oldR r p).lo) && (decide ((oldS r p).hi=(oldR r p).hi) && true)) then true else !decide (openE r (isPlate r p)=rfE r (isPlate r p)) then true else !decide (mixedS r m=mixedR r m))=true)/\True)/\True)/\(((bif bif !(decide ((oldS r p).lo=(oldR r p).lo) && (decide ((oldS r p).hi=(oldR r p).hi) && true)) then true else !decide (openE r (isPlate r p)=rfE r (isPlate r p)) then true else !decide (mixedS r m=mixedR r m))=true->True)/\((bif bif !(decide ((oldS r p).lo=(oldR r p).lo) && (decide ((oldS r p).hi=(oldR r p).hi) && true)) then true else !decide (openE r (isPlate r p)=rfE r (isPlate r p)) then true else !decide (mixedS r m=mixedR r m))=false->(!bif bif !(decide ((oldS r p).lo=(oldR r p).lo) && (decide ((oldS r p).hi=(oldR r p).hi) && true)) then true else !decide (openE r (isPlate r p)=rfE r (isPlate r p)) then true else !decide (mixedS r m=mixedR r m))=true))/\True) (st':=ASt.mk [(3,.ptr 0 []),(7,.ptr 48 []),(8,.ptr 112 []),(10,.ptr 184 []),(64,bv (bif bif bif !(decide ((oldS r p).lo=(oldR r p).lo) && (decide ((oldS r p).hi=(oldR r p).hi) && true)) then true else !decide (openE r (isPlate r p)=rfE r (isPlate r p)) then true else !decide (mixedS r m=mixedR r m) then true else !decide (openE r (isMachine r m)=rfE r (isMachine r m))))] [(0,.cells 25 (cRun r)),(48,.cells 25 (cRun r)),(112,.cells 37 (cSpan (oldS r p))),(184,.cells 37 (cSpan (oldR r p)))] 480) ⟨tv,tv,tv,tv,(fun h8=>⟨⟨tv,tv⟩,tv⟩),(fun h9=>⟨⟨tv,tv⟩,tv⟩),(fun h10=>⟨⟨(fun h11=>h10),(fun h12=>h10),tv⟩,tv⟩),⟨(fun h13=>tv),(fun h14=>(o1 hp h1 h14))⟩,tv,(fun h15=>⟨⟨tv,tv⟩,tv⟩),(fun h16=>⟨⟨tv,tv⟩,tv⟩),(fun h17=>⟨⟨(fun h18=>h17),(fun h19=>h17),tv⟩,tv⟩),⟨(fun h20=>tv),(fun h21=>(o2 hp h1 h21))⟩,tv,(fun h22=>⟨⟨tv,tv⟩,tv⟩),(fun h23=>⟨⟨tv,tv⟩,tv⟩),(fun h24=>⟨⟨(fun h25=>h24),(fun h26=>h24),tv⟩,tv⟩),⟨(fun h27=>tv),(fun h28=>(o3 hp h1 h28))⟩,tv⟩ ?_
  refine swp_cond (bif bif bif !(decide ((oldS r p).lo=(oldR r p).lo) && (decide ((oldS r p).hi=(oldR r p).hi) && true)) then true else !decide (openE r (isPlate r p)=rfE r (isPlate r p)) then true else !decide (mixedS r m=mixedR r m) then true else !decide (openE r (isMachine r m)=rfE r (isMachine r m))) (by kernel_rfl) (fun h29 => ?_) (fun h29 => ?_)
  ·refine swp_seq ?_
   refine sQ (kt:=[6]) (kh:=[]) (q:=True/\True) (st':=ASt.mk [(6,bv false)] [] 488) ⟨tv,tv⟩ ?_
   refine swp_ret ?_
   exact rQ [] ((True/\True)/\(zN (bv false) (bv true))/\T3) ⟨⟨tv,tv⟩,⟨(congrArg bv (o4 hp h1 h29)),rfl⟩,rfl,rfl,rfl⟩
  ·refine swp_skip (swp_seq ?_)
   refine sC (cs:=[(1,CallSpec.eq (s27 r) [true])]) (kt:=[3,7,8,10,9]) (kh:=[0,48,112,184]) (q:=True/\((zE (AV.agg (cRun r))/\True)/\Triple Try.prog 27 (s27 r)/\fits r/\True /\ ∀ (i30:Env),True)/\tn 5) (st':=ASt.mk [(3,.ptr 0 []),(7,.ptr 48 []),(8,.ptr 112 []),(10,.ptr 184 []),(9,iv (openE r true))] [(0,.cells 25 (cRun r)),(48,.cells 25 (cRun r)),(112,.cells 37 (cSpan (mixesS r))),(184,.cells 37 (cSpan (oldR r p)))] 536) ⟨tv,⟨⟨rfl,tv⟩,(t27 (r)),hp,tv,(fun i30=>tv)⟩,tp 5⟩ ?_
   refine swp_seq ?_
   refine sC (cs:=[(1,CallSpec.eq (s68 r) [true])]) (kt:=[3,7,8,10,9,11]) (kh:=[0,48,112,184]) (q:=True/\((zE (AV.agg (cRun r))/\True)/\Triple Try.prog 68 (s68 r)/\fits r/\True /\ ∀ (i31:Env),True)/\tn 5) (st':=ASt.mk [(3,.ptr 0 []),(7,.ptr 48 []),(8,.ptr 112 []),(10,.ptr 184 []),(9,iv (openE r true)),(11,iv (rfE r true))] [(0,.cells 25 (cRun r)),(48,.cells 25 (cRun r)),(112,.cells 37 (cSpan (mixesS r))),(184,.cells 37 (cSpan (mixesR r)))] 592) ⟨tv,⟨⟨rfl,tv⟩,(t68 (r)),hp,tv,(fun i31=>tv)⟩,tp 5⟩ ?_
   refine swp_seq ?_
   refine sC (cs:=[(1,CallSpec.eq (s54 r) [true])]) (kt:=[3,7,8,10,9,11,16,13]) (kh:=[0,48,112,184]) (q:=True/\((zE (AV.agg (cRun r))/\True)/\Triple Try.prog 54 (s54 r)/\fits r/\True /\ ∀ (i32:Env),True)/\tn 5) (st':=ASt.mk [(3,.ptr 0 []),(7,.ptr 48 []),(8,.ptr 112 []),(10,.ptr 184 []),(9,iv (openE r true)),(11,iv (rfE r true)),(16,iv (seekP r).1),(13,iv (seekP r).2)] [(0,.cells 25 (cRun r)),(48,.cells 25 (cRun r)),(112,.cells 37 (cSpan (mixesS r))),(184,.cells 37 (cSpan (mixesR r)))] 648) ⟨tv,⟨⟨rfl,tv⟩,(t54 (r)),hp,tv,(fun i32=>tv)⟩,tp 5⟩ ?_
   refine swp_seq ?_
   refine sC (cs:=[(1,CallSpec.eq (s69 r) [true])]) (kt:=[3,7,8,10,9,11,16,13,17,15]) (kh:=[0,48,112,184]) (q:=True/\((zE (AV.agg (cRun r))/\True)/\Triple Try.prog 69 (s69 r)/\fits r/\True /\ ∀ (i33:Env),True)/\tn 5) (st':=ASt.mk [(3,.ptr 0 []),(7,.ptr 48 []),(8,.ptr 112 []),(10,.ptr 184 []),(9,iv (openE r true)),(11,iv (rfE r true)),(16,iv (seekP r).1),(13,iv (seekP r).2),(17,iv (seekR r).1),(15,iv (seekR r).2)] [(0,.cells 25 (cRun r)),(48,.cells 25 (cRun r)),(112,.cells 37 (cSpan (mixesS r))),(184,.cells 37 (cSpan (mixesR r)))] 704) ⟨tv,⟨⟨rfl,tv⟩,(t69 (r)),hp,tv,(fun i33=>tv)⟩,tp 5⟩ ?_
   refine swp_seq ?_
   refine sC (cs:=[(21,CallSpec.eq (s33 r) [true,true]),(24,CallSpec.eq s19 [])]) (kt:=[6]) (kh:=[]) (q:=True/\True/\True/\True/\((decide ((mixesS r).lo=(mixesR r).lo) && (decide ((mixesS r).hi=(mixesR r).hi) && true))->(True/\True)/\True)/\((decide ((mixesS r).lo=(mixesR r).lo) && (decide ((mixesS r).hi=(mixesR r).hi) && true))->(True/\True)/\True)/\((decide ((mixesS r).lo=(mixesR r).lo) && (decide ((mixesS r).hi=(mixesR r).hi) && true))->(((decide ((mixesS r).lo=(mixesR r).lo) && (decide ((mixesS r).hi=(mixesR r).hi) && true))->(decide ((mixesS r).lo=(mixesR r).lo) && (decide ((mixesS r).hi=(mixesR r).hi) && true))=true)/\((decide ((mixesS r).lo=(mixesR r).lo) && (decide ((mixesS r).hi=(mixesR r).hi) && true))->(decide ((mixesS r).lo=(mixesR r).lo) && (decide ((mixesS r).hi=(mixesR r).hi) && true))=true)/\True)/\True)/\(((decide ((mixesS r).lo=(mixesR r).lo) && (decide ((mixesS r).hi=(mixesR r).hi) && true))->(decide ((mixesS r).lo=(mixesR r).lo) && (decide ((mixesS r).hi=(mixesR r).hi) && true))=true)/\((decide ((mixesS r).lo=(mixesR r).lo) && (decide ((mixesS r).hi=(mixesR r).hi) && true))=false->True))/\True/\((bif decide ((mixesS r).lo=(mixesR r).lo) && (decide ((mixesS r).hi=(mixesR r).hi) && true) then decide (openE r true=rfE r true) else false)=true->(True/\True)/\True)/\((bif decide ((mixesS r).lo=(mixesR r).lo) && (decide ((mixesS r).hi=(mixesR r).hi) && true) then decide (openE r true=rfE r true) else false)=true->(True/\True)/\True)/\((bif decide ((mixesS r).lo=(mixesR r).lo) && (decide ((mixesS r).hi=(mixesR r).hi) && true) then decide (openE r true=rfE r true) else false)=true->(((bif decide ((mixesS r).lo=(mixesR r).lo) && (decide ((mixesS r).hi=(mixesR r).hi) && true) then decide (openE r true=rfE r true) else false)=true->(bif decide ((mixesS r).lo=(mixesR r).lo) && (decide ((mixesS r).hi=(mixesR r).hi) && true) then decide (openE r true=rfE r true) else false)=true)/\((bif decide ((mixesS r).lo=(mixesR r).lo) && (decide ((mixesS r).hi=(mixesR r).hi) && true) then decide (openE r true=rfE r true) else false)=true->(bif decide ((mixesS r).lo=(mixesR r).lo) && (decide ((mixesS r).hi=(mixesR r).hi) && true) then decide (openE r true=rfE r true) else false)=true)/\True)/\True)/\(((bif decide ((mixesS r).lo=(mixesR r).lo) && (decide ((mixesS r).hi=(mixesR r).hi) && true) then decide (openE r true=rfE r true) else false)=true->(bif decide ((mixesS r).lo=(mixesR r).lo) && (decide ((mixesS r).hi=(mixesR r).hi) && true) then decide (openE r true=rfE r true) else false)=true)/\((bif decide ((mixesS r).lo=(mixesR r).lo) && (decide ((mixesS r).hi=(mixesR r).hi) && true) then decide (openE r true=rfE r true) else false)=false->True))/\True/\((bif bif decide ((mixesS r).lo=(mixesR r).lo) && (decide ((mixesS r).hi=(mixesR r).hi) && true) then decide (openE r true=rfE r true) else false then decide ((seekP r).1=(seekR r).1) else false)=true->(True/\True)/\True)/\((bif bif decide ((mixesS r).lo=(mixesR r).lo) && (decide ((mixesS r).hi=(mixesR r).hi) && true) then decide (openE r true=rfE r true) else false then decide ((seekP r).1=(seekR r).1) else false)=true->(True/\True)/\True)/\((bif bif decide ((mixesS r).lo=(mixesR r).lo) && (decide ((mixesS r).hi=(mixesR r).hi) && true) then decide (openE r true=rfE r true) else false then decide ((seekP r).1=(seekR r).1) else false)=true->(((bif bif decide ((mixesS r).lo=(mixesR r).lo) && (decide ((mixesS r).hi=(mixesR r).hi) && true) then decide (openE r true=rfE r true) else false then decide ((seekP r).1=(seekR r).1) else false)=true->(bif bif decide ((mixesS r).lo=(mixesR r).lo) && (decide ((mixesS r).hi=(mixesR r).hi) && true) then decide (openE r true=rfE r true) else false then decide ((seekP r).1=(seekR r).1) else false)=true)/\((bif bif decide ((mixesS r).lo=(mixesR r).lo) && (decide ((mixesS r).hi=(mixesR r).hi) && true) then decide (openE r true=rfE r true) else false then decide ((seekP r).1=(seekR r).1) else false)=true->(bif bif decide ((mixesS r).lo=(mixesR r).lo) && (decide ((mixesS r).hi=(mixesR r).hi) && true) then decide (openE r true=rfE r true) else false then decide ((seekP r).1=(seekR r).1) else false)=true)/\True)/\True)/\(((bif bif decide ((mixesS r).lo=(mixesR r).lo) && (decide ((mixesS r).hi=(mixesR r).hi) && true) then decide (openE r true=rfE r true) else false then decide ((seekP r).1=(seekR r).1) else false)=true->(bif bif decide ((mixesS r).lo=(mixesR r).lo) && (decide ((mixesS r).hi=(mixesR r).hi) && true) then decide (openE r true=rfE r true) else false then decide ((seekP r).1=(seekR r).1) else false)=true)/\((bif bif decide ((mixesS r).lo=(mixesR r).lo) && (decide ((mixesS r).hi=(mixesR r).hi) && true) then decide (openE r true=rfE r true) else false then decide ((seekP r).1=(seekR r).1) else false)=false->True))/\True/\((bif bif bif decide ((mixesS r).lo=(mixesR r).lo) && (decide ((mixesS r).hi=(mixesR r).hi) && true) then decide (openE r true=rfE r true) else false then decide ((seekP r).1=(seekR r).1) else false then decide ((seekP r).2=(seekR r).2) else false)=true->(True/\True)/\True)/\((bif bif bif decide ((mixesS r).lo=(mixesR r).lo) && (decide ((mixesS r).hi=(mixesR r).hi) && true) then decide (openE r true=rfE r true) else false then decide ((seekP r).1=(seekR r).1) else false then decide ((seekP r).2=(seekR r).2) else false)=true->(True/\True)/\True)/\((bif bif bif decide ((mixesS r).lo=(mixesR r).lo) && (decide ((mixesS r).hi=(mixesR r).hi) && true) then decide (openE r true=rfE r true) else false then decide ((seekP r).1=(seekR r).1) else false then decide ((seekP r).2=(seekR r).2) else false)=true->(True/\((bif bif bif decide ((mixesS r).lo=(mixesR r).lo) && (decide ((mixesS r).hi=(mixesR r).hi) && true) then decide (openE r true=rfE r true) else false then decide ((seekP r).1=(seekR r).1) else false then decide ((seekP r).2=(seekR r).2) else false)=true->(bif bif bif decide ((mixesS r).lo=(mixesR r).lo) && (decide ((mixesS r).hi=(mixesR r).hi) && true) then decide (openE r true=rfE r true) else false then decide ((seekP r).1=(seekR r).1) else false then decide ((seekP r).2=(seekR r).2) else false)=true)/\((bif bif bif decide ((mixesS r).lo=(mixesR r).lo) && (decide ((mixesS r).hi=(mixesR r).hi) && true) then decide (openE r true=rfE r true) else false then decide ((seekP r).1=(seekR r).1) else false then decide ((seekP r).2=(seekR r).2) else false)=true->(bif bif bif decide ((mixesS r).lo=(mixesR r).lo) && (decide ((mixesS r).hi=(mixesR r).hi) && true) then decide (openE r true=rfE r true) else false then decide ((seekP r).1=(seekR r).1) else false then decide ((seekP r).2=(seekR r).2) else false)=true)/\True)/\(zE (AV.agg (cRun r))/\zE (AV.agg (cRun r))/\True)/\Triple Try.prog 33 (s33 r)/\fits r/\True /\ ∀ (i60:Env),True)/\(((bif bif bif decide ((mixesS r).lo=(mixesR r).lo) && (decide ((mixesS r).hi=(mixesR r).hi) && true) then decide (openE r true=rfE r true) else false then decide ((seekP r).1=(seekR r).1) else false then decide ((seekP r).2=(seekR r).2) else false)=true->(bif bif bif decide ((mixesS r).lo=(mixesR r).lo) && (decide ((mixesS r).hi=(mixesR r).hi) && true) then decide (openE r true=rfE r true) else false then decide ((seekP r).1=(seekR r).1) else false then decide ((seekP r).2=(seekR r).2) else false)=true)/\((bif bif bif decide ((mixesS r).lo=(mixesR r).lo) && (decide ((mixesS r).hi=(mixesR r).hi) && true) then decide (openE r true=rfE r true) else false then decide ((seekP r).1=(seekR r).1) else false then decide ((seekP r).2=(seekR r).2) else false)=false->True))/\True/\((bif bif bif bif decide ((mixesS r).lo=(mixesR r).lo) && (decide ((mixesS r).hi=(mixesR r).hi) && true) then decide (openE r true=rfE r true) else false then decide ((seekP r).1=(seekR r).1) else false then decide ((seekP r).2=(seekR r).2) else false then true else false)=true->(True/\True)/\True/\Triple Try.prog 19 s19/\True/\True /\ ∀ (i64:Env),True)/\(((bif bif bif bif decide ((mixesS r).lo=(mixesR r).lo) && (decide ((mixesS r).hi=(mixesR r).hi) && true) then decide (openE r true=rfE r true) else false then decide ((seekP r).1=(seekR r).1) else false then decide ((seekP r).2=(seekR r).2) else false then true else false)=true->(bif bif bif bif decide ((mixesS r).lo=(mixesR r).lo) && (decide ((mixesS r).hi=(mixesR r).hi) && true) then decide (openE r true=rfE r true) else false then decide ((seekP r).1=(seekR r).1) else false then decide ((seekP r).2=(seekR r).2) else false then true else false)=true)/\((bif bif bif bif decide ((mixesS r).lo=(mixesR r).lo) && (decide ((mixesS r).hi=(mixesR r).hi) && true) then decide (openE r true=rfE r true) else false then decide ((seekP r).1=(seekR r).1) else false then decide ((seekP r).2=(seekR r).2) else false then true else false)=false->True))/\True/\True) (st':=ASt.mk [(6,bv (bif bif bif bif bif decide ((mixesS r).lo=(mixesR r).lo) && (decide ((mixesS r).hi=(mixesR r).hi) && true) then decide (openE r true=rfE r true) else false then decide ((seekP r).1=(seekR r).1) else false then decide ((seekP r).2=(seekR r).2) else false then true else false then true else false))] [] 920) ⟨tv,tv,tv,tv,(fun h34=>⟨⟨tv,tv⟩,tv⟩),(fun h35=>⟨⟨tv,tv⟩,tv⟩),(fun h36=>⟨⟨(fun h37=>h36),(fun h38=>h36),tv⟩,tv⟩),⟨(fun h39=>h39),(fun h40=>tv)⟩,tv,(fun h41=>⟨⟨tv,tv⟩,tv⟩),(fun h42=>⟨⟨tv,tv⟩,tv⟩),(fun h43=>⟨⟨(fun h44=>h43),(fun h45=>h43),tv⟩,tv⟩),⟨(fun h46=>h46),(fun h47=>tv)⟩,tv,(fun h48=>⟨⟨tv,tv⟩,tv⟩),(fun h49=>⟨⟨tv,tv⟩,tv⟩),(fun h50=>⟨⟨(fun h51=>h50),(fun h52=>h50),tv⟩,tv⟩),⟨(fun h53=>h53),(fun h54=>tv)⟩,tv,(fun h55=>⟨⟨tv,tv⟩,tv⟩),(fun h56=>⟨⟨tv,tv⟩,tv⟩),(fun h57=>⟨⟨tv,(fun h58=>h57),(fun h59=>h57),tv⟩,⟨rfl,rfl,tv⟩,(t33 (r)),hp,tv,(fun i60=>tv)⟩),⟨(fun h61=>h61),(fun h62=>tv)⟩,tv,(fun h63=>⟨⟨tv,tv⟩,tv,(t19),tv,tv,(fun i64=>tv)⟩),⟨(fun h65=>h65),(fun h66=>tv)⟩,tv,tv⟩ ?_
   refine swp_ret ?_
   exact rQ [] ((True/\True)/\(zN (bv (bif bif bif bif bif decide ((mixesS r).lo=(mixesR r).lo) && (decide ((mixesS r).hi=(mixesR r).hi) && true) then decide (openE r true=rfE r true) else false then decide ((seekP r).1=(seekR r).1) else false then decide ((seekP r).2=(seekR r).2) else false then true else false then true else false)) (bv true))/\T3) ⟨⟨tv,tv⟩,⟨(congrArg bv (o5 hp h1 h29)),rfl⟩,rfl,rfl,rfl⟩
theorem t15 (r:Run) (p m:Int):Triple Try.prog 15 (s15 r p m):=by
 apply w15
 case o0=>exact fun h1 h2=>far_small h2 h1
 case o4=>intro _ _ h; rw [old_eq,mixed_eq,open_eq,open_eq] at h; simp at h
 case o5=>intro _ _ _; rw [mixes_eq,seek_eq,open_eq]; simp
 all_goals (first | ((repeat intro _) <;> (try simp only [v0,v1,v2,v3,v4,v5,v6,v7,v8,v9,inI,fits,Go.Sh.small] at *) <;> first | (exact rfl) | omega | exact vz | (simp_all; done) | (simp_all; omega)) | skip)
end Go.Ab
namespace Go.Ab
open Go Go.RowKit
def Dec (P:Program) (t:TypeId) {α:Type} (c:α->List AV) (ok:α->Prop):Prop :=
 ∀ {H:Type} (enc:TypeId × Value->H) (w:World) (E:Env) (fuel:Nat) (cs:List Value) (d:DataW H) (ps:List MemPlace),
  (∀ b,E.M b=w.heap[b]?)->DataW.trod enc P w 0 (fun _=>true) true fuel t cs=some (d,ps)->(∀ n ∈ d.weights P t,n<=reachBytes) -> ∃ a,ok a /\ ∀ o,RelL E o (c a) cs
theorem mcell_of {E:Env} {w:World} (h:∀ b,E.M b=w.heap[b]?) {a:Addr} {v:Value} (hc:w.cell? a=some v):a.spot=none/\mcell E.M a.block a.off=some v:=by
 refine ⟨World.cell?_spot hc,?_⟩
 have hs:=World.cell?_spot hc
 unfold World.cell? at hc
 unfold mcell
 rw [h]
 split at hc
 ·rename_i c t fr e
  rw [hs] at hc
  rw [e]
  simpa using hc
 ·cases hc
theorem lit_wf {n:Int} (h:(Lit.int .i64 n).wf=true) : -9223372036854775808<=n/\n<=9223372036854775807:=by
 simpa [Lit.wf,IntKind.min,IntKind.max,IntKind.signed,IntKind.bits] using h
theorem dec_int {P:Program} {t:TypeId} (ht:P.underlying t=some (.int .i64)):Dec P t (fun n=>[iv n]) (fun n => -9223372036854775808<=n/\n<=9223372036854775807):=by
 intro H enc w E fuel cs d ps _ h _
 obtain ⟨n,rfl,_,hw⟩:=DataW.trod_int ht h
 exact ⟨n,lit_wf hw,fun o => .cons (.lit _) rfl .nil⟩
theorem weightsAll_mem {H:Type} {P:Program} {e:TypeId}:∀ {l:List (DataW H)} {d:DataW H},d ∈ l -> ∀ n ∈ d.weights P e,n ∈ DataW.weightsAll P e l:=by
 intro l
 induction l with
 | nil=>intro d h; cases h
 | cons x l ih =>
  intro d h n hn
  rw [DataW.weightsAll,List.mem_append]
  rcases List.mem_cons.1 h with rfl | h
  ·exact .inl hn
  ·exact .inr (ih h n hn)
theorem dec_slice {P:Program} {t e:TypeId} {α:Type} [Inhabited α] {c:α->List AV} {ok:α->Prop} (ht:P.underlying t=some (.slice e)) {sz:Nat} (hsz:P.cellsOf e=sz) (hpos:0 < sz) (hby:0 < P.bytesOf e) (he:Dec P e c ok) :
  Dec P t (fun l:List α=>[.sl sz l.length (fun i=>c (l.getD i default))]) (fun l=>l.length<=140737488355328 /\ ∀ a,a ∈ l->ok a):=by
 intro H enc w E fuel cs d ps hE h hw
 rcases Deep.open_slice ht h with ⟨rfl,hx⟩ | ⟨a,len,cap,m,n,D,Pl,rfl,hb,hl,hm,hmm,hx,hall⟩
 ·refine ⟨[],⟨Nat.zero_le _,fun a ha=>by cases ha⟩,fun o => ?_⟩
  exact .cons (.slN _ _) rfl .nil
 ·simp only [if_true] at hmm
  subst hmm
  rw [hsz] at hall
  obtain ⟨rfl,rfl⟩:=Prod.mk.inj hx
  have hwt:∀ i,i < len -> ∀ k ∈ (D i).weights P e,k<=reachBytes:=by
   intro i hi k hk
   refine hw k ?_
   rw [DataW.weights,ht]
   refine List.mem_cons_of_mem _ (List.mem_append_left _ (weightsAll_mem (d:=D i) ?_ k hk))
   exact List.mem_map.2 ⟨i,List.mem_range.2 hi,rfl⟩
  have hlen:len<=140737488355328:=by
   have h1:(((List.range len).map D).length + ((List.range (m - len)).map fun j=>D (len + j)).length) * P.bytesOf e<=reachBytes:=by
    refine hw _ ?_
    rw [DataW.weights,ht]
    exact List.mem_cons_self ..
   simp only [List.length_map,List.length_range] at h1
   have h2:len<=(len + (m - len)) * P.bytesOf e:=Nat.le_trans (Nat.le_add_right _ _) (Nat.le_mul_of_pos_right _ hby)
   have h3:=reachBytes_lt
   omega
  obtain ⟨g,hg⟩:=Deep.choose_lt (α:=List Value) (p:=fun i cs'=>w.cells? 0 (a.add (i * sz)) sz=some cs'/\DataW.trod enc P w 0 (fun _=>true) true n e cs'=some (D i,Pl i)) hall
  have hdec:∀ i,i < len -> ∃ x,ok x /\ ∀ o,RelL E o (c x) (g i):=fun i hi=>he enc w E n (g i) (D i) (Pl i) hE (hg i (by omega)).2 (hwt i hi)
  obtain ⟨A,hA⟩:=Deep.choose_lt (α:=α) (p:=fun i x=>ok x /\ ∀ o,RelL E o (c x) (g i)) hdec
  refine ⟨(List.range len).map A,⟨by simpa using hlen,fun x hx => ?_⟩,fun o => .cons ?_ rfl .nil⟩
  ·obtain ⟨i,hi,rfl⟩:=List.mem_map.1 hx
   exact (hA i (List.mem_range.1 hi)).1
  ·rw [List.length_map,List.length_range]
   have hcell:∀ i k,i < m->k < sz -> ∃ v,(g i)[k]? = some v/\w.cell? ((a.add (i * sz)).add k)=some v:=by
    intro i k hi hk
    obtain ⟨_,hl1,hl2⟩:=World.cells?_some (hg i hi).1
    have:=hl2 k hk
    obtain ⟨v,hv⟩:∃ v,(g i)[k]? = some v:=⟨_,List.getElem?_eq_getElem (by omega)⟩
    exact ⟨v,hv,by rw [this,hv]⟩
   by_cases h0:m=0
   ·subst h0
    obtain rfl:len=0:=by omega
    exact .slZ _ _ _
   ·obtain ⟨v,_,hv⟩:=hcell 0 0 (by omega) hpos
    have hsp:=(mcell_of hE hv).1
    obtain ⟨b,off,spot⟩:=a
    obtain rfl:spot=none:=by simpa [Addr.add] using hsp
    refine .slA sz len _ b off m g hl hm (fun i hi => ?_) (fun i k hi hk => ?_) (fun i hi => ?_)
    ·exact (World.cells?_some (hg i (by omega)).1).2.1
    ·obtain ⟨v,hv1,hv2⟩:=hcell i k (by omega) hk
     rw [hv1]
     have:=(mcell_of hE hv2).2
     rw [addr_add,addr_add] at this
     exact this
    ·have:((List.range len).map A).getD i default=A i:=by
      rw [List.getD_eq_getElem?_getD,List.getElem?_map,List.getElem?_range hi]; rfl
     rw [this]
     exact (hA i hi).2 false
def DecFs (P:Program) (off fin:Nat) (fs:List Field) {α:Type} (c:α->List AV) (ok:α->Prop):Prop :=
 ∀ {H:Type} (enc:TypeId × Value->H) (w:World) (E:Env) (n:Nat) (cs:List Value) (xs:List (DataW H × List MemPlace)),
  (∀ b,E.M b=w.heap[b]?)->cs.length=fin->xs.length=fs.length->(∀ (i:Nat) (f:Field),fs[i]? = some f->DataW.trod enc P w 0 (fun _=>true) true n f.type ((cs.drop f.offset).take (P.cellsOf f.type))=xs[i]?) →
  (∀ k ∈ DataW.weightsEach P (fs.map (·.type)) (xs.map (·.1)),k<=reachBytes) -> ∃ a,ok a /\ ∀ o,RelL E o (c a) (cs.drop off)
theorem decFs_nil {P:Program} {fin:Nat}:DecFs P fin fin [] (fun _:Unit=>[]) (fun _=>True):=by
 intro H enc w E n cs xs _ hl _ _ _
 refine ⟨(),trivial,fun o => ?_⟩
 rw [List.drop_of_length_le (by omega)]
 exact .nil
theorem decFs_cons {P:Program} {off mid fin:Nat} {f:Field} {fs:List Field} {α β:Type} {c1:α->List AV} {ok1:α->Prop} {c2:β->List AV} {ok2:β->Prop} {t:TypeId} (hft:f.type=t) (ho:f.offset=off) (hm:off + P.cellsOf t=mid)
  (h1:Dec P t c1 ok1) (h2:DecFs P mid fin fs c2 ok2):DecFs P off fin (f :: fs) (fun p:α × β=>c1 p.1 ++ c2 p.2) (fun p=>ok1 p.1/\ok2 p.2):=by
 intro H enc w E n cs xs hE hl hx hall hw
 subst hft; subst ho; subst hm
 cases xs with
 | nil=>simp at hx
 | cons x xs =>
  have h0:=hall 0 f rfl
  simp only [List.getElem?_cons_zero] at h0
  obtain ⟨a,ha,hra⟩:=h1 enc w E n _ x.1 x.2 hE h0 (fun k hk=>hw k (by
   simp only [List.map_cons,DataW.weightsEach]
   exact List.mem_append_left _ hk))
  obtain ⟨b,hb,hrb⟩:=h2 enc w E n cs xs hE hl (by simpa using hx) (fun i g hg=>by
   have:=hall (i + 1) g (by simpa using hg)
   simpa using this) (fun k hk=>hw k (by
   simp only [List.map_cons,DataW.weightsEach]
   exact List.mem_append_right _ hk))
  refine ⟨(a,b),⟨ha,hb⟩,fun o => ?_⟩
  have:=(hra o).append (hrb o)
  rw [← List.drop_drop,List.take_append_drop] at this
  exact this
theorem dec_struct {P:Program} {t:TypeId} {fs:Array Field} {sz:Nat} {α:Type} {c:α->List AV} {ok:α->Prop} (ht:P.underlying t=some (.struct fs)) (hsz:P.cellsOf t=sz) (h:DecFs P 0 sz fs.toList c ok):Dec P t c ok:=by
 intro H enc w E fuel cs d ps hE hd hw
 obtain ⟨xs,n,_,hx,hl,hxl,hall⟩:=DataW.trod_struct ht hd
 obtain ⟨rfl,rfl⟩:=Prod.mk.inj hx
 obtain ⟨a,ha,hr⟩:=h enc w E n cs xs hE (by omega) (by simpa using hxl) (fun i f hf=>hall i f (by simpa using hf)) (fun k hk=>hw k (by rw [DataW.weights,ht]; exact hk))
 exact ⟨a,ha,fun o=>by simpa using hr o⟩
theorem Dec.map {P:Program} {t:TypeId} {α β:Type} {c:α->List AV} {ok:α->Prop} {c':β->List AV} {ok':β->Prop} (h:Dec P t c ok) (g:α->β) (hc:∀ a,ok a->c' (g a)=c a) (hok:∀ a,ok a->ok' (g a)):Dec P t c' ok':=by
 intro H enc w E fuel cs d ps hE hd hw
 obtain ⟨a,ha,hr⟩:=h enc w E fuel cs d ps hE hd hw
 exact ⟨g a,hok a ha,fun o=>by rw [hc a ha]; exact hr o⟩
theorem Dec.arg {P:Program} {t:TypeId} {α:Type} {c:α->List AV} {ok:α->Prop} (h:Dec P t c ok) {H:Type} {enc:TypeId × Value->H} {w:World} {E:Env} (hE:∀ b,E.M b=w.heap[b]?) {v:Value} {d:DataW H} {ps:List MemPlace}
  (hd:DataW.Trod enc P w 0 (fun _=>true) true t v d ps) (hw:∀ n ∈ d.weights P t,n<=reachBytes):∃ a,ok a /\ ∀ o,RelL E o (c a) v.cells.toList:=by
 obtain ⟨fuel,hf⟩:=hd
 exact h enc w E fuel _ d ps hE hf hw
def envOf (w:World):Env:={ M:=fun b=>w.heap[b]?,blk:=fun _=>none,hdr:=fun _=>none,fns:=fun _ _=>False }
theorem heapOK_of (P:Program) (w:World):HeapOK (calleeCtx P (envOf w) w []) (envOf w) (Heap.of []) w where
 os:=rfl
 tape:=rfl
 output:=rfl
 size:=Nat.le_refl _
 pres:=fun _ _=>rfl
 mem:=fun _ _ h=>h
 le:=Env.le.refl _
 ext:=fun _ _ h => .inl h
 own:=fun id ob h=>by cases h
 sep:=fun i j k _ h=>absurd rfl h
theorem trodAll_below {H:Type} {enc:TypeId × Value->H} {P:Program} (hl:laidOutB P=true) {W W':World} (hb:Below W.heap.size W W'):∀ {ts:List TypeId} {vs:List Value} {ds:List (DataW H)} {ps:List MemPlace},
  (∀ t ∈ ts,P.readableRec t=true/\t < P.types.size)->DataW.TrodAll enc P W 0 (fun _=>true) true ts vs ds ps->(∀ x ∈ ps,x.block < W.heap.size) →
  DataW.TrodAll enc P W' 0 (fun b=>decide (b < W.heap.size)) true ts vs ds ps:=by
 intro ts
 induction ts with
 | nil =>
  intro vs ds ps _ h _
  obtain ⟨rfl,rfl,rfl⟩:=ChangeShapes.trodAll_nil h
  exact ChangeShapes.trodAll_mk0
 | cons t ts ih =>
  intro vs ds ps hr h hlt
  obtain ⟨v,vs',d,ds',p,q,rfl,rfl,rfl,hd,hrest⟩:=ChangeShapes.trodAll_cons h
  obtain ⟨h1,h2⟩:=hr t (List.mem_cons_self ..)
  exact ⟨p,q,Below.trod hl h1 h2 hd hb (fun x hx=>hlt x (List.mem_append_left _ hx)),ih (fun t ht=>hr t (List.mem_cons_of_mem _ ht)) hrest (fun x hx=>hlt x (List.mem_append_right _ hx)),rfl⟩
theorem law_contract {P:Program} (hl:laidOutB P=true) {f:FuncId} {fn:Func} {s:ChangeSpec} (hvars:s.vars = []) {tb:TypeId} (hres:fn.resultTypes = #[tb]) (htb:P.underlying tb=some .bool)
  (hread:∀ t ∈ fn.params.toList,P.readableRec t=true/\t < P.types.size)
  {H:Type} {enc:TypeId × Value->H} {W:World} {args:Array Value} {ds gs:List (DataW H)} {before:List MemPlace}
  (hfn:ds.length=fn.params.size->s.fn H ds = { results:=[.lit (.bool true)],args:=ds })
  (hW:DataW.Whole enc P fn.params.toList s.vars false W args.toList ds gs before) {sp:CallSpec} (ht:Triple P f sp) (hp:sp.pre) (hfo:∀ E,sp.fnok E) (hin:sp.hin = []) (hout:sp.hout = []) (hr:sp.res=bv true)
  (hla:args.toList.length=sp.args.length) (hra:∀ k,Rel (envOf W) true (sp.args.getD k .any) (args.toList.getD k undef)) :
  Calls P f args W fun e W' => ∃ v,e = .returned v/\s.post enc P fn false true false false W args v W':=by
 have hok:=heapOK_of P W
 have h:=ht.2 hp (envOf W) W args.toList (hfo _) (by rw [hin]; exact hok) hla hra
 refine (h (by rw [hout]; intro p hp; cases hp)).mono fun e W' hpost => ?_
 obtain ⟨v,E',he,hh,hv,_⟩:=hpost
 rw [hr] at hv
 have hvt:v = .bool true:=by cases hv; rfl
 subst hvt
 have hb:Below W.heap.size W W':=⟨hh.os,hh.tape,hh.output,hh.size,fun k hk=>hh.pres k (by
  rintro (hc | ⟨q,hq,_⟩)
  ·exact absurd hk (Nat.not_lt.2 hc)
  ·rw [hin] at hq; cases hq)⟩
 refine ⟨_,he,?_⟩
 have hW':=hW
 obtain ⟨p,q,hA,hV,rfl,hz,hnd⟩:=hW
 rw [hvars] at hV
 obtain ⟨rfl,rfl⟩:=ChangeShapes.trodVars_none hV
 have hlen:ds.length=fn.params.size:=by
  have:∀ {ts:List TypeId} {vs:List Value} {ds:List (DataW H)} {ps:List MemPlace},DataW.TrodAll enc P W 0 (fun _=>true) true ts vs ds ps->ds.length=ts.length:=by
   intro ts
   induction ts with
   | nil=>intro vs ds ps h; obtain ⟨_,rfl,_⟩:=ChangeShapes.trodAll_nil h; rfl
   | cons t ts ih=>intro vs ds ps h; obtain ⟨_,_,_,_,_,_,rfl,rfl,rfl,_,hr⟩:=ChangeShapes.trodAll_cons h; simp [ih hr]
  simpa using this hA
 refine ⟨ds,[],p ++ [],[],p,[],hW',?_,?_,?_,hb.frame _,fun h=>by cases h⟩
 ·rw [List.append_nil,hfn hlen,hres]
  exact ChangeShapes.trodAll_mk1 (shut_bool htb true)
 ·rw [List.append_nil,hfn hlen]
  exact trodAll_below hl hb hread hA (fun x hx=>hW'.lt x (List.mem_append_left _ hx))
 ·rw [List.append_nil,hfn hlen,hvars]
  rfl
end Go.Ab
namespace Go.Ab
open Go Go.RowKit Go.Proofs Go.Sh Go.En
theorem dInt:Dec Try.prog 3 (fun n=>[iv n]) (fun n => -9223372036854775808<=n/\n<=9223372036854775807):=dec_int Try.underlying3
theorem dInts:Dec Try.prog 30 (fun l:List Int=>[aInts l]) (fun l=>l.length<=140737488355328) :=
 Dec.map (dec_slice (α:=Int) Try.underlying30 (by kernel_rfl) (by decide) (Nat.lt_of_lt_of_eq (by decide:0 < 8) (by kernel_rfl)) dInt) id (fun _ _=>rfl) (fun _ h=>h.1)
theorem dSpan:Dec Try.prog 37 cSpan (fun _=>True) :=
 Dec.map (dec_struct Try.underlying37 (sz:=2) (by kernel_rfl) (decFs_cons (mid:=1) rfl rfl (by kernel_rfl) dInt (decFs_cons (mid:=2) rfl rfl (by kernel_rfl) dInt decFs_nil))) (fun p=>(⟨p.1,p.2.1⟩:Span)) (fun _ _=>rfl) (fun _ _=>trivial)
theorem dSpans:Dec Try.prog 40 (fun l:List Span=>[aSpans l]) (fun l=>l.length<=140737488355328) :=
 Dec.map (dec_slice (α:=Span) Try.underlying40 (by kernel_rfl) (by decide) (Nat.lt_of_lt_of_eq (by decide:0 < 16) (by kernel_rfl)) dSpan) id (fun _ _=>rfl) (fun _ h=>h.1)
theorem dMach:Dec Try.prog 42 cMach (fun m=>m.changes.length<=140737488355328) :=
 Dec.map (dec_struct Try.underlying42 (sz:=2) (by kernel_rfl) (decFs_cons (mid:=1) rfl rfl (by kernel_rfl) dSpans (decFs_cons (mid:=2) rfl rfl (by kernel_rfl) dInt decFs_nil))) (fun p=>(⟨p.1,p.2.1⟩:Mach)) (fun _ _=>rfl) (fun _ h=>h.1)
theorem dFnd:Dec Try.prog 32 cFnd (fun c=>c.new.length<=140737488355328/\c.frm.length<=140737488355328) :=
 Dec.map (dec_struct Try.underlying32 (sz:=3) (by kernel_rfl) (decFs_cons (mid:=1) rfl rfl (by kernel_rfl) dInt (decFs_cons (mid:=2) rfl rfl (by kernel_rfl) dInts (decFs_cons (mid:=3) rfl rfl (by kernel_rfl) dInts decFs_nil)))) (fun p=>(⟨p.1,p.2.1,p.2.2.1⟩:Fnd)) (fun _ _=>rfl) (fun _ h=>⟨h.2.1,h.2.2.1⟩)
theorem dMachs:Dec Try.prog 22 (fun l:List Mach=>[.sl 2 l.length (fun i=>cMach (l.getD i default))]) (fun l=>l.length<=140737488355328 /\ ∀ m,m ∈ l->m.changes.length<=140737488355328) :=
 dec_slice (α:=Mach) Try.underlying22 (by kernel_rfl) (by decide) (Nat.lt_of_lt_of_eq (by decide:0 < 32) (by kernel_rfl)) dMach
theorem dFnds:Dec Try.prog 23 (fun l:List Fnd=>[.sl 3 l.length (fun i=>cFnd (l.getD i default))]) (fun l=>l.length<=140737488355328 /\ ∀ c,c ∈ l->c.new.length<=140737488355328/\c.frm.length<=140737488355328) :=
 dec_slice (α:=Fnd) Try.underlying23 (by kernel_rfl) (by decide) (Nat.lt_of_lt_of_eq (by decide:0 < 56) (by kernel_rfl)) dFnd
theorem dRun:Dec Try.prog 25 cRun fits:=by
 refine Dec.map (dec_struct Try.underlying25 (sz:=4) (by kernel_rfl) (decFs_cons (mid:=1) rfl rfl (by kernel_rfl) dInt (decFs_cons (mid:=2) rfl rfl (by kernel_rfl) dInt (decFs_cons (mid:=3) rfl rfl (by kernel_rfl) dMachs (decFs_cons (mid:=4) rfl rfl (by kernel_rfl) dFnds decFs_nil))))) (fun p=>(⟨p.1,p.2.1,p.2.2.1,p.2.2.2.1⟩:Run)) (fun _ _=>rfl) (fun p h => ?_)
 obtain ⟨_,_,⟨h1,h2⟩,⟨h3,h4⟩,_⟩:=h
 refine ⟨Nat.le_trans h1 (by decide),Nat.le_trans h3 (by decide),fun i => ?_,fun i => ?_⟩
 ·show (p.2.2.1.getD i default).changes.length<=_
  by_cases hi:i < p.2.2.1.length
  ·exact Nat.le_trans (h2 _ (getD_mem _ default hi)) (by decide)
  ·rw [getD_ge _ _ (by omega)]; exact Nat.zero_le _
 ·show (p.2.2.2.1.getD i default).new.length<=_/\(p.2.2.2.1.getD i default).frm.length<=_
  by_cases hi:i < p.2.2.2.1.length
  ·have:=h4 _ (getD_mem _ default hi)
   exact ⟨Nat.le_trans this.1 (by decide),Nat.le_trans this.2 (by decide)⟩
  ·rw [getD_ge _ _ (by omega)]; exact ⟨Nat.zero_le _,Nat.zero_le _⟩
set_option maxRecDepth 100000
theorem laidOut:laidOutB Try.prog=true:=by kernel_rfl
section
variable {H:Type} {enc:TypeId × Value->H} {W:World} {base:Nat} {v:Value} {d:DataW H} {ps:List MemPlace}
theorem arg_struct {t:TypeId} {fs:Array Field} {α:Type} {c:α->List AV} {ok:α->Prop} (ht:Try.prog.underlying t=some (.struct fs)) (hD:Dec Try.prog t c ok) (hval:Value.okWide Try.prog W .any base t v) (hd:DataW.Trod enc Try.prog W 0 (fun _=>true) true t v d ps) (hw:∀ n ∈ d.weights Try.prog t,n<=reachBytes) :
  ∃ a,ok a/\Rel (envOf W) true (.agg (c a)) v:=by
 unfold Value.okWide at hval
 rw [ht] at hval
 obtain ⟨cs,rfl,_⟩:=hval
 obtain ⟨a,ha,hr⟩:=hD.arg (E:=envOf W) (fun _=>rfl) hd hw
 refine ⟨a,ha,?_⟩
 have h:=Rel.agg (hr true)
 simpa [Value.cells] using h
theorem arg_int (hval:Value.okWide Try.prog W .any base 3 v) (hd:DataW.Trod enc Try.prog W 0 (fun _=>true) true 3 v d ps):∃ n:Int,(-9223372036854775808<=n/\n<=9223372036854775807)/\Rel (envOf W) true (iv n) v:=by
 obtain ⟨n,rfl,_,_,hw⟩:=ChangeShapes.open_int Try.underlying3 hval hd
 exact ⟨n,lit_wf hw,.lit _⟩
end
theorem weights_part {H:Type} {ts:List TypeId} {ds:List (DataW H)} (h:(DataW.weightsEach Try.prog ts ds).all (· <= reachBytes)=true) {j:Nat} {t:TypeId} {d:DataW H} (ht:ts[j]? = some t) (hd:ds[j]? = some d):∀ n ∈ d.weights Try.prog t,n<=reachBytes:=by
 intro n hn
 have:=List.all_eq_true.1 h _ (DataW.weights_mem_each ht hd n hn)
 simpa using this
theorem law_run2 {f:FuncId} {fn:Func} {s:ChangeSpec} (hps:fn.params = #[25,3,3]) (hres:fn.resultTypes = #[4]) (hvars:s.vars = []) (hfn:∀ (H:Type) (d1 d2 d3:DataW H),s.fn H [d1,d2,d3] = { results:=[.lit (.bool true)],args:=[d1,d2,d3] })
  (sp:Run->Int->Int->CallSpec) (ht:∀ r a b,Triple Try.prog f (sp r a b)) (hargs:∀ r a b,(sp r a b).args = [vRun r,iv a,iv b]) (hpre:∀ r a b,fits r->(-9223372036854775808<=a/\a<=9223372036854775807)->(-9223372036854775808<=b/\b<=9223372036854775807)->(sp r a b).pre)
  (hfo:∀ r a b E,(sp r a b).fnok E) (hin:∀ r a b,(sp r a b).hin = []) (hout:∀ r a b,(sp r a b).hout = []) (hr:∀ r a b,(sp r a b).res=bv true)
  {H:Type} {enc:TypeId × Value->H} {W:World} {base:Nat} {args:Array Value} {ds gs:List (DataW H)} {before:List MemPlace}
  (hval:∀ (j:Nat) t v,fn.params[j]? = some t->args[j]? = some v->Value.okWide Try.prog W .any base t v) (hW:DataW.Whole enc Try.prog fn.params.toList s.vars false W args.toList ds gs before)
  (hsz:(DataW.weightsEach Try.prog (fn.params.toList ++ s.plain.varTypes Try.prog) (ds ++ gs)).all (· <= reachBytes)=true) :
  Calls Try.prog f args W fun e W' => ∃ v,e = .returned v/\s.post enc Try.prog fn false true false false W args v W':=by
 have hW':=hW
 obtain ⟨p,q,hA,_,_,_,_⟩:=hW
 rw [hps] at hA hval hsz
 obtain ⟨v0,v1,v2,d0,d1,d2,p0,p1,p2,rfl,rfl,rfl,h0,h1,h2⟩:=ChangeShapes.trodAll_three hA
 obtain ⟨r,hr0,r0⟩:=arg_struct Try.underlying25 dRun (hval 0 25 v0 rfl rfl) h0 (weights_part hsz (j:=0) rfl rfl)
 obtain ⟨a,ha,r1⟩:=arg_int (hval 1 3 v1 rfl rfl) h1
 obtain ⟨b,hb,r2⟩:=arg_int (hval 2 3 v2 rfl rfl) h2
 refine law_contract laidOut hvars hres Try.underlying4 (fun t htt => ?_) (fun _=>hfn H d0 d1 d2) hW' (ht r a b) (hpre r a b hr0 ha hb) (hfo r a b) (hin r a b) (hout r a b) (hr r a b) (by rw [hargs]; rfl) (fun k => ?_)
 ·rw [hps] at htt
  have:t=25 ∨ t=3:=by simpa using htt
  rcases this with rfl | rfl
  ·exact ⟨by kernel_rfl,of_decide_eq_true (by kernel_rfl)⟩
  ·exact ⟨by kernel_rfl,of_decide_eq_true (by kernel_rfl)⟩
 ·rw [hargs]
  rcases k with _ | _ | _ | k
  ·exact r0
  ·exact r1
  ·exact r2
  ·exact .any _
end Go.Ab
namespace Go.Proofs.Ytcbgfmalillplaa
open Go Go.Ab Go.Sh Go.En Go.RowKit
set_option maxRecDepth 100000
theorem own:ownKnob Try.prog.godebug=none:=by kernel_rfl
def nilArgs:Array Value := #[.agg #[.int .i64 0,.int .i64 0,.slice none 0 0,.slice none 0 0],.int .i64 0,.int .i64 0]
theorem lifted (os:Os) (started:os.Started) (H:Type) (enc:TypeId × Value->H) :
  ReturnsInHanded {} Try.checked os 15 .any (Rows.copiesMixesSpec.pre6 enc Try.prog Try.f15 Rows.copiesMixesRow.domain false) (Rows.copiesMixesSpec.post enc Try.prog Try.f15 false true false false):=by
 refine returnsInHanded_of_change_sized (C:=Try.checked) own started (by kernel_rfl) Try.func15
  (ChangeSpec.witness6 (enc:=enc) (C:=Try.checked) false ⟨#[],nilArgs,[]⟩ 8 (by kernel_rfl) (by kernel_rfl) (by kernel_rfl) (by kernel_rfl)) ?_
 intro W base args ds gs before hval hW _ hsz _
 exact law_run2 Try.params15 rfl rfl (fun _ _ _ _=>rfl) s15 t15 (fun _ _ _=>rfl) (fun _ _ _ h _ _=>h) (fun _ _ _ _=>trivial) (fun _ _ _=>rfl) (fun _ _ _=>rfl) (fun _ _ _=>rfl) hval hW hsz
theorem proved:Rows.CopiesMixesSaid :=
 OpenClaim.holds_of_wide 15 Try.f15 rfl rfl rfl rfl rfl rfl rfl ⟨rfl,rfl,rfl,rfl,rfl⟩ rfl rfl rfl rfl rfl (by kernel_rfl) Try.func15 (by kernel_rfl)
  (of_decide_eq_true (by kernel_rfl)) (by unfold Func.isWrapper; first | (rw [if_pos (by decide +kernel)]; kernel_rfl) | (rw [if_neg (by decide +kernel)]; exact ⟨rfl,rfl⟩))
  (fun os started H enc _=>lifted os started H enc)
end Go.Proofs.Ytcbgfmalillplaa
