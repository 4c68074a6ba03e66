/- TopShown returns true for every house, plates, and what is shown, and leaves what it was handed as it was. No condition. -/
import Derived.Test.YtcbgfmalillplaaQShown4
import Derived.Deep.Slices
import Derived.ChangeShapes
import Derived.Carry
import Derived.OpenShut
import Derived.SizedLaws
import Derived.Test.YtcbgfmalillplaaRows
import Derived.ProofKit
import Derived.JoinedOf
set_option linter.all false
set_option linter.deprecated false
namespace Go.Ab
open Go Go.RowKit Go.Proofs Go.Sh Go.En
abbrev zo20_1 (r:Run) (jm:Nat) (jf:Nat):LoopAnn:=Hint.ann (h20xa r jm jf) [(1,AV.ptr 0 []),(2,AV.ptr 8 []),(3,AV.ptr 56 [])] [(0,OB.cells 25 (cRun r)),(8,OB.cells 25 [iv 0,iv 0,nilv,nilv])] 10080
abbrev zo20_2 (r:Run) (jm:Nat) (jf:Nat):LoopAnn:=Hint.ann (h20xb r jm jf) [(1,AV.ptr 0 []),(2,AV.ptr 8 []),(3,AV.ptr 56 [])] [(0,OB.cells 25 (cRun r)),(8,OB.cells 25 [iv 0,iv 0,nilv,nilv])] 20128
abbrev qo20_1 (r:Run) (jm:Nat) (jf:Nat) (C:Nat->Prop):Prop:=small r -> ∀ (x0:Nat),x0<=r.machines.length->decide ((x0:Int) < (↑(r.machines.length):Int))=true->C x0
abbrev qo20_2 (r:Run) (jm:Nat) (jf:Nat) (C:Nat->Prop):Prop:=qo20_1 r jm jf fun x0=>eqN x0 jm=true->C x0
abbrev qo20_3 (r:Run) (jm:Nat) (jf:Nat) (C:Nat->Prop):Prop:=qo20_1 r jm jf fun x0=>eqN x0 jm=false->C x0
abbrev qo20_4 (r:Run) (jm:Nat) (jf:Nat) (C:Nat->Prop):Prop:=small r -> ∀ (x0:Nat),x0<=r.machines.length->decide ((x0:Int) < (↑(r.machines.length):Int))=false->C x0
abbrev qo20_5 (r:Run) (jm:Nat) (jf:Nat) (C:Nat->Nat->Prop):Prop:=qo20_4 r jm jf fun x0 => ∀ (x13:Nat),x13<=r.found.length->decide ((x13:Int) < (↑(r.found.length):Int))=true->C x0 x13
abbrev qo20_6 (r:Run) (jm:Nat) (jf:Nat) (C:Nat->Nat->Prop):Prop:=qo20_5 r jm jf fun x0 x13=>eqN x13 jf=true->C x0 x13
abbrev qo20_7 (r:Run) (jm:Nat) (jf:Nat) (C:Nat->Nat->Prop):Prop:=qo20_5 r jm jf fun x0 x13=>eqN x13 jf=false->C x0 x13
theorem wo20 (r:Run) (jm:Nat) (jf:Nat)
 (o0:small r->0=(↑0:Int))
 (o1:small r->chLen r jm 0=0)
 (o2:small r->0<=List.length (Run.machines r))
 (o3:qo20_2 r jm jf fun x0=>0<=(x0:Int))
 (o4:qo20_2 r jm jf fun x0=>(x0:Int) < (↑(r.machines.length):Int))
 (o5:qo20_2 r jm jf fun x0=>0 + (mach r x0).changes.length<=65536)
 (o6:qo20_2 r jm jf fun x0=>0<=(x0:Int))
 (o7:qo20_2 r jm jf fun x0=>(x0:Int) < (↑(r.machines.length):Int))
 (o8:qo20_2 r jm jf fun x0=>x0 + 1<=65536)
 (o9:qo20_2 r jm jf fun x0=>jm=x0)
 (o10:qo20_2 r jm jf fun x0=>inI ((x0:Int) + 1))
 (o11:qo20_2 r jm jf fun x0=>(x0:Int) + 1=(↑(x0 + 1):Int))
 (o12:qo20_2 r jm jf fun x0=>(mach r x0).rate=(mach r jm).rate)
 (o13:qo20_2 r jm jf fun x0=>0 + (mach r x0).changes.length=chLen r jm (x0 + 1))
 (o14:qo20_2 r jm jf fun x0 => ∀ (i6:Nat),i6 < 0 + (mach r x0).changes.length->cSpan ((mach r x0).changes.getD i6 default)=cSpan (chg (mach r jm) i6))
 (o15:qo20_2 r jm jf fun x0=>x0 + 1<=r.machines.length)
 (o16:qo20_2 r jm jf fun x0=>r.machines.length - (x0 + 1) < r.machines.length - x0)
 (o17:qo20_3 r jm jf fun x0=>0<=(x0:Int))
 (o18:qo20_3 r jm jf fun x0=>(x0:Int) < (↑(r.machines.length):Int))
 (o19:qo20_3 r jm jf fun x0=>0 + (mach r x0).changes.length<=65536)
 (o20:qo20_3 r jm jf fun x0=>0<=(x0:Int))
 (o21:qo20_3 r jm jf fun x0=>(x0:Int) < (↑(r.machines.length):Int))
 (o22:qo20_3 r jm jf fun x0=>x0 + 1<=65536)
 (o23:qo20_3 r jm jf fun x0=>jm < x0 ∨ x0 + 1<=jm)
 (o24:qo20_3 r jm jf fun x0=>inI ((x0:Int) + 1))
 (o25:qo20_3 r jm jf fun x0=>(x0:Int) + 1=(↑(x0 + 1):Int))
 (o26:qo20_3 r jm jf fun x0 => ∀ (i8:Nat),i8 < x0 + 1->i8 ≠ jm->catF x0 (fun (k:Nat)=>cMach (mach r k)) (fun (j:Nat)=>List.getD [[AV.sl 2 (0 + (mach r x0).changes.length) fun (i:Nat)=>cSpan ((mach r x0).changes.getD i default),iv (mach r x0).rate]] j (TI.za ti42)) i8=cMach (mach r i8))
 (o27:qo20_3 r jm jf fun x0=>chLen r jm x0=chLen r jm (x0 + 1))
 (o28:qo20_3 r jm jf fun x0=>x0 + 1<=r.machines.length)
 (o29:qo20_3 r jm jf fun x0=>r.machines.length - (x0 + 1) < r.machines.length - x0)
 (o30:qo20_4 r jm jf fun x0=>0=(↑0:Int))
 (o31:qo20_4 r jm jf fun x0=>x0=r.machines.length)
 (o32:qo20_4 r jm jf fun x0=>chLen r jm x0=chLen r jm r.machines.length)
 (o33:qo20_4 r jm jf fun x0=>nwLen r jf 0=0)
 (o34:qo20_4 r jm jf fun x0=>0<=r.found.length)
 (o35:qo20_5 r jm jf fun x0 x13=>0<=(x13:Int))
 (o36:qo20_5 r jm jf fun x0 x13=>(x13:Int) < (↑(r.found.length):Int))
 (o37:qo20_6 r jm jf fun x0 x13=>0 + (fnd r x13).new.length<=65536)
 (o38:qo20_6 r jm jf fun x0 x13=>0 + (fnd r x13).frm.length<=65536)
 (o39:qo20_6 r jm jf fun x0 x13=>x13 + 1<=65536)
 (o40:qo20_6 r jm jf fun x0 x13=>jf=x13)
 (o41:qo20_6 r jm jf fun x0 x13=>inI ((x13:Int) + 1))
 (o42:qo20_6 r jm jf fun x0 x13=>(x13:Int) + 1=(↑(x13 + 1):Int))
 (o43:qo20_6 r jm jf fun x0 x13=>(fnd r x13).minute=(fnd r jf).minute)
 (o44:qo20_6 r jm jf fun x0 x13=>0 + (fnd r x13).frm.length=(fnd r jf).frm.length)
 (o45:qo20_6 r jm jf fun x0 x13 => ∀ (i27:Nat),i27 < (fnd r jf).frm.length -> [iv ((fnd r x13).frm.getD i27 0)] = [iv ((fnd r jf).frm.getD i27 0)])
 (o46:qo20_6 r jm jf fun x0 x13=>0 + (fnd r x13).new.length=nwLen r jf (x13 + 1))
 (o47:qo20_6 r jm jf fun x0 x13 => ∀ (i29:Nat),i29 < 0 + (fnd r x13).new.length -> [iv ((fnd r x13).new.getD i29 0)] = [iv ((fnd r jf).new.getD i29 0)])
 (o48:qo20_6 r jm jf fun x0 x13=>x13 + 1<=r.found.length)
 (o49:qo20_6 r jm jf fun x0 x13=>r.found.length - (x13 + 1) < r.found.length - x13)
 (o50:qo20_7 r jm jf fun x0 x13=>0 + (fnd r x13).new.length<=65536)
 (o51:qo20_7 r jm jf fun x0 x13=>0 + (fnd r x13).frm.length<=65536)
 (o52:qo20_7 r jm jf fun x0 x13=>x13 + 1<=65536)
 (o53:qo20_7 r jm jf fun x0 x13=>jf < x13 ∨ x13 + 1<=jf)
 (o54:qo20_7 r jm jf fun x0 x13=>inI ((x13:Int) + 1))
 (o55:qo20_7 r jm jf fun x0 x13=>(x13:Int) + 1=(↑(x13 + 1):Int))
 (o56:qo20_7 r jm jf fun x0 x13 => ∀ (i34:Nat),i34 < x13 + 1->i34 ≠ jf->catF x13 (fun (k:Nat)=>cFnd (fnd r k)) (fun (j:Nat)=>List.getD [[iv (fnd r x13).minute,AV.sl 1 (0 + (fnd r x13).new.length) fun (i:Nat)=>[iv ((fnd r x13).new.getD i 0)],AV.sl 1 (0 + (fnd r x13).frm.length) fun (i:Nat)=>[iv ((fnd r x13).frm.getD i 0)]]] j (TI.za ti32)) i34=cFnd (fnd r i34))
 (o57:qo20_7 r jm jf fun x0 x13=>nwLen r jf x13=nwLen r jf (x13 + 1))
 (o58:qo20_7 r jm jf fun x0 x13=>x13 + 1<=r.found.length)
 (o59:qo20_7 r jm jf fun x0 x13=>r.found.length - (x13 + 1) < r.found.length - x13)
 (o60:qo20_4 r jm jf fun x0 => ∀ (x13:Nat),x13<=r.found.length->decide ((x13:Int) < (↑(r.found.length):Int))=false->x13=r.found.length)
 (o61:qo20_4 r jm jf fun x0 => ∀ (x13:Nat),x13<=r.found.length->decide ((x13:Int) < (↑(r.found.length):Int))=false->nwLen r jf x13=nwLen r jf r.found.length)
  (l:List (Nat × Nat)) (hl:l.map (·.1)=(OutSpec.hout (ou20 r jm jf)).map (·.1)) (hnd:(l.map (·.2)).Nodup) :
  Triple Try.prog 20 (OutSpec.at (ou20 r jm jf) l):=by
 refine triple_out Try.func20 rfl Try.call20 T0_ok _ _ _ _ l rfl (Nat.le_of_ble_eq_true (by kernel_rfl)) hl hnd (by kernel_rfl) (by kernel_rfl) (by kernel_rfl) ?_
 intro hp C hC hE
 obtain ⟨P,w0,E0,av,hA⟩:=C
 subst hC
 refine swp_seq ?_
 refine sQ (kt:=[1,2]) (kh:=[0,8]) (q:=tn 2) (st':=ASt.mk [(1,.ptr 0 []),(2,.ptr 8 [])] [(0,.cells 25 (cRun r)),(8,.cells 25 [iv 0,iv 0,nilv,nilv])] 16) (tp 2) ?_
 refine swp_seq ?_
 refine sQ (kt:=[1,2,3]) (kh:=[0,8,56]) (q:=tn 7) (st':=ASt.mk [(1,.ptr 0 []),(2,.ptr 8 []),(3,.ptr 56 [])] [(0,.cells 25 (cRun r)),(8,.cells 25 [iv 0,iv 0,nilv,nilv]),(56,.cells 25 [iv r.plates,iv r.last,nilv,nilv])] 72) (tp 7) ?_
 refine swp_seq (swp_seq ?_)
 refine sQ (kt:=[1,2,3,4]) (kh:=[0,8,56]) (q:=True/\True) (st':=ASt.mk [(1,.ptr 0 []),(2,.ptr 8 []),(3,.ptr 56 []),(4,iv 0)] [(0,.cells 25 (cRun r)),(8,.cells 25 [iv 0,iv 0,nilv,nilv]),(56,.cells 25 [iv r.plates,iv r.last,nilv,nilv])] 80) ⟨tv,tv⟩ ?_
 refine swp_block ?_
 refine swp_loopA (zo20_1 r jm jf) (eQ hE [] [(0,.same 0),(8,.same 8),(56,.same 56),(5000,.nil),(5002,.nil)] [] [0,8] (((zP 0)/\(zP 8)/\(zP 56)/\(zN (iv 0) (iv (↑0:Int)))/\True)/\((zT (OB.cells 25 (cRun r)))/\(zT (OB.cells 25 [iv 0,iv 0,nilv,nilv]))/\(25=25/\((zM (iv r.plates))/\(zM (iv r.last))/\zE (some Src.nil)/\(zM nilv)/\True)/\true=true)/\0=0/\chLen r jm 0=0/\True)/\T2) ⟨⟨⟨rfl,rfl⟩,⟨rfl,rfl⟩,⟨rfl,rfl⟩,⟨(congrArg iv (o0 hp)),rfl⟩,tv⟩,⟨⟨rfl,rfl⟩,⟨rfl,rfl⟩,⟨rfl,⟨⟨rfl,rfl⟩,⟨rfl,rfl⟩,rfl,⟨rfl,rfl⟩,tv⟩,rfl⟩,rfl,(o1 hp),tv⟩,rfl,rfl⟩) (o2 hp) (fun (x0:Nat) hx0 => ?_)
 refine swp_seq (swp_seq ?_)
 refine sQ (kt:=[1,2,3,4,16]) (kh:=[0,8,56,5000,5002]) (q:=tn 5) (st':=ASt.mk [(1,.ptr 0 []),(2,.ptr 8 []),(3,.ptr 56 []),(4,iv (x0:Int)),(16,bv (decide ((x0:Int) < (↑(r.machines.length):Int))))] [(0,.cells 25 (cRun r)),(8,.cells 25 [iv 0,iv 0,nilv,nilv]),(56,.cells 25 [iv r.plates,iv r.last,.vec 5000,nilv]),(5000,.vecx 42 2 x0 (fun (k:Nat)=>cMach (mach r k)) jm [.vec 5002,iv (mach r jm).rate]),(5002,.vec 37 2 (chLen r jm x0) fun (p:Nat)=>cSpan (chg (mach r jm) p))] 10120) (tp 5) ?_
 refine swp_cond (decide ((x0:Int) < (↑(r.machines.length):Int))) (by kernel_rfl) (fun h1 => ?_) (fun h1 => ?_)
 ·refine swp_skip (swp_seq (swp_block ?_))
  refine swp_cases (eqN x0 jm) (fun h2 => ?_) (fun h2 => ?_)
  ·refine sC (cs:=[(17,focS),(18,focS)]) (kt:=[1,2,3,4]) (kh:=[0,8,56,10264,10192]) (q:=True/\True/\True/\True/\True/\True/\(0<=(x0:Int)/\(x0:Int) < (↑(r.machines.length):Int))/\True/\True/\0 + (mach r x0).changes.length<=65536/\True/\True/\True/\(0<=(x0:Int)/\(x0:Int) < (↑(r.machines.length):Int))/\True/\True/\True/\True/\(x0 + 1<=65536/\jm=x0)/\tn 2) (st':=ASt.mk [(1,.ptr 0 []),(2,.ptr 8 []),(3,.ptr 56 []),(4,iv (x0:Int))] [(0,.cells 25 (cRun r)),(8,.cells 25 [iv 0,iv 0,nilv,nilv]),(56,.cells 25 [iv r.plates,iv r.last,.vec 10264,nilv]),(10264,.vecx 42 2 (x0 + 1) (fun (k:Nat)=>cMach (mach r k)) jm [.vec 10192,iv (mach r x0).rate]),(10192,.vec 37 2 (0 + (mach r x0).changes.length) fun (i:Nat)=>cSpan ((mach r x0).changes.getD i default))] 10288) ⟨tv,tv,tv,tv,tv,tv,⟨(o3 hp x0 hx0 h1 h2),(o4 hp x0 hx0 h1 h2)⟩,tv,tv,(o5 hp x0 hx0 h1 h2),tv,tv,tv,⟨(o6 hp x0 hx0 h1 h2),(o7 hp x0 hx0 h1 h2)⟩,tv,tv,tv,tv,⟨(o8 hp x0 hx0 h1 h2),(o9 hp x0 hx0 h1 h2)⟩,tp 2⟩ ?_
   refine sQ (kt:=[1,2,3,4]) (kh:=[0,8,56,10264,10192]) (q:=True/\inI ((x0:Int) + 1)/\True/\True) (st':=ASt.mk [(1,.ptr 0 []),(2,.ptr 8 []),(3,.ptr 56 []),(4,iv ((x0:Int) + 1))] [(0,.cells 25 (cRun r)),(8,.cells 25 [iv 0,iv 0,nilv,nilv]),(56,.cells 25 [iv r.plates,iv r.last,.vec 10264,nilv]),(10264,.vecx 42 2 (x0 + 1) (fun (k:Nat)=>cMach (mach r k)) jm [.vec 10192,iv (mach r x0).rate]),(10192,.vec 37 2 (0 + (mach r x0).changes.length) fun (i:Nat)=>cSpan ((mach r x0).changes.getD i default))] 10312) ⟨tv,(o10 hp x0 hx0 h1 h2),tv,tv⟩ ?_
   exact loop_next (zo20_1 r jm jf) x0 (eQ hE [] [(0,.same 0),(8,.same 8),(56,.same 56),(5000,.same 10264),(5002,.same 10192)] [] [0,8] (((zP 0)/\(zP 8)/\(zP 56)/\(zN (iv ((x0:Int) + 1)) (iv (↑(x0 + 1):Int)))/\True)/\((zT (OB.cells 25 (cRun r)))/\(zT (OB.cells 25 [iv 0,iv 0,nilv,nilv]))/\(25=25/\((zM (iv r.plates))/\(zM (iv r.last))/\zE (some (Src.same 10264))/\(zM nilv)/\True)/\true=true)/\(42=42/\2=2/\x0 + 1=x0 + 1/\jm=jm/\(∀ (i3:Nat),i3 < x0 + 1->i3 ≠ jm->cMach (mach r i3)=cMach (mach r i3))/\(zE (some (Src.same 10192))/\(zN (iv (mach r x0).rate) (iv (mach r jm).rate))/\True)/\true=true)/\(37=37/\2=2/\0 + (mach r x0).changes.length=chLen r jm (x0 + 1) /\ ∀ (i6:Nat),i6 < 0 + (mach r x0).changes.length->cSpan ((mach r x0).changes.getD i6 default)=cSpan (chg (mach r jm) i6))/\True)/\T2) ⟨⟨⟨rfl,rfl⟩,⟨rfl,rfl⟩,⟨rfl,rfl⟩,⟨(congrArg iv (o11 hp x0 hx0 h1 h2)),rfl⟩,tv⟩,⟨⟨rfl,rfl⟩,⟨rfl,rfl⟩,⟨rfl,⟨⟨rfl,rfl⟩,⟨rfl,rfl⟩,rfl,⟨rfl,rfl⟩,tv⟩,rfl⟩,⟨rfl,rfl,rfl,rfl,(fun i3=>(fun h4=>(fun h5=>rfl))),⟨rfl,⟨(congrArg iv (o12 hp x0 hx0 h1 h2)),rfl⟩,tv⟩,rfl⟩,⟨rfl,rfl,(o13 hp x0 hx0 h1 h2),(fun i6=>(fun h7=>(o14 hp x0 hx0 h1 h2 i6 h7)))⟩,tv⟩,rfl,rfl⟩) (o15 hp x0 hx0 h1 h2) (o16 hp x0 hx0 h1 h2)
  ·refine sQ (kt:=[1,2,3,4]) (kh:=[0,8,56,10264,5002]) (q:=True/\True/\True/\True/\True/\True/\(0<=(x0:Int)/\(x0:Int) < (↑(r.machines.length):Int))/\True/\True/\0 + (mach r x0).changes.length<=65536/\True/\True/\True/\(0<=(x0:Int)/\(x0:Int) < (↑(r.machines.length):Int))/\True/\True/\True/\True/\(x0 + 1<=65536/\(jm < x0 ∨ x0 + 1<=jm))/\tn 2) (st':=ASt.mk [(1,.ptr 0 []),(2,.ptr 8 []),(3,.ptr 56 []),(4,iv (x0:Int))] [(0,.cells 25 (cRun r)),(8,.cells 25 [iv 0,iv 0,nilv,nilv]),(56,.cells 25 [iv r.plates,iv r.last,.vec 10264,nilv]),(10264,.vecx 42 2 (x0 + 1) (catF x0 (fun (k:Nat)=>cMach (mach r k)) fun (j:Nat)=>List.getD [[.sl 2 (0 + (mach r x0).changes.length) fun (i:Nat)=>cSpan ((mach r x0).changes.getD i default),iv (mach r x0).rate]] j (TI.za ti42)) jm [.vec 5002,iv (mach r jm).rate]),(5002,.vec 37 2 (chLen r jm x0) fun (p:Nat)=>cSpan (chg (mach r jm) p))] 10288) ⟨tv,tv,tv,tv,tv,tv,⟨(o17 hp x0 hx0 h1 h2),(o18 hp x0 hx0 h1 h2)⟩,tv,tv,(o19 hp x0 hx0 h1 h2),tv,tv,tv,⟨(o20 hp x0 hx0 h1 h2),(o21 hp x0 hx0 h1 h2)⟩,tv,tv,tv,tv,⟨(o22 hp x0 hx0 h1 h2),(o23 hp x0 hx0 h1 h2)⟩,tp 2⟩ ?_
   refine sQ (kt:=[1,2,3,4]) (kh:=[0,8,56,10264,5002]) (q:=True/\inI ((x0:Int) + 1)/\True/\True) (st':=ASt.mk [(1,.ptr 0 []),(2,.ptr 8 []),(3,.ptr 56 []),(4,iv ((x0:Int) + 1))] [(0,.cells 25 (cRun r)),(8,.cells 25 [iv 0,iv 0,nilv,nilv]),(56,.cells 25 [iv r.plates,iv r.last,.vec 10264,nilv]),(10264,.vecx 42 2 (x0 + 1) (catF x0 (fun (k:Nat)=>cMach (mach r k)) fun (j:Nat)=>List.getD [[.sl 2 (0 + (mach r x0).changes.length) fun (i:Nat)=>cSpan ((mach r x0).changes.getD i default),iv (mach r x0).rate]] j (TI.za ti42)) jm [.vec 5002,iv (mach r jm).rate]),(5002,.vec 37 2 (chLen r jm x0) fun (p:Nat)=>cSpan (chg (mach r jm) p))] 10312) ⟨tv,(o24 hp x0 hx0 h1 h2),tv,tv⟩ ?_
   exact loop_next (zo20_1 r jm jf) x0 (eQ hE [] [(0,.same 0),(8,.same 8),(56,.same 56),(5000,.same 10264),(5002,.same 5002)] [] [0,8] (((zP 0)/\(zP 8)/\(zP 56)/\(zN (iv ((x0:Int) + 1)) (iv (↑(x0 + 1):Int)))/\True)/\((zT (OB.cells 25 (cRun r)))/\(zT (OB.cells 25 [iv 0,iv 0,nilv,nilv]))/\(25=25/\((zM (iv r.plates))/\(zM (iv r.last))/\zE (some (Src.same 10264))/\(zM nilv)/\True)/\true=true)/\(42=42/\2=2/\x0 + 1=x0 + 1/\jm=jm/\(∀ (i8:Nat),i8 < x0 + 1->i8 ≠ jm->catF x0 (fun (k:Nat)=>cMach (mach r k)) (fun (j:Nat)=>List.getD [[AV.sl 2 (0 + (mach r x0).changes.length) fun (i:Nat)=>cSpan ((mach r x0).changes.getD i default),iv (mach r x0).rate]] j (TI.za ti42)) i8=cMach (mach r i8))/\(zE (some (Src.same 5002))/\(zM (iv (mach r jm).rate))/\True)/\true=true)/\(37=37/\2=2/\chLen r jm x0=chLen r jm (x0 + 1) /\ ∀ (i11:Nat),i11 < chLen r jm x0->cSpan (chg (mach r jm) i11)=cSpan (chg (mach r jm) i11))/\True)/\T2) ⟨⟨⟨rfl,rfl⟩,⟨rfl,rfl⟩,⟨rfl,rfl⟩,⟨(congrArg iv (o25 hp x0 hx0 h1 h2)),rfl⟩,tv⟩,⟨⟨rfl,rfl⟩,⟨rfl,rfl⟩,⟨rfl,⟨⟨rfl,rfl⟩,⟨rfl,rfl⟩,rfl,⟨rfl,rfl⟩,tv⟩,rfl⟩,⟨rfl,rfl,rfl,rfl,(fun i8=>(fun h9=>(fun h10=>(o26 hp x0 hx0 h1 h2 i8 h9 h10)))),⟨rfl,⟨rfl,rfl⟩,tv⟩,rfl⟩,⟨rfl,rfl,(o27 hp x0 hx0 h1 h2),(fun i11=>(fun h12=>rfl))⟩,tv⟩,rfl,rfl⟩) (o28 hp x0 hx0 h1 h2) (o29 hp x0 hx0 h1 h2)
 ·refine swp_exit (swp_seq (swp_seq ?_))
  refine sQ (kt:=[1,2,3,5]) (kh:=[0,8,56,5000,5002]) (q:=True/\True) (st':=ASt.mk [(1,.ptr 0 []),(2,.ptr 8 []),(3,.ptr 56 []),(5,iv 0)] [(0,.cells 25 (cRun r)),(8,.cells 25 [iv 0,iv 0,nilv,nilv]),(56,.cells 25 [iv r.plates,iv r.last,.vec 5000,nilv]),(5000,.vecx 42 2 x0 (fun (k:Nat)=>cMach (mach r k)) jm [.vec 5002,iv (mach r jm).rate]),(5002,.vec 37 2 (chLen r jm x0) fun (p:Nat)=>cSpan (chg (mach r jm) p))] 10128) ⟨tv,tv⟩ ?_
  refine swp_block ?_
  refine swp_loopA (zo20_2 r jm jf) (eQ hE [] [(0,.same 0),(8,.same 8),(56,.same 56),(5000,.same 5000),(5002,.same 5002),(5001,.nil),(5003,.nil)] [] [0,8] (((zP 0)/\(zP 8)/\(zP 56)/\(zN (iv 0) (iv (↑0:Int)))/\True)/\((zT (OB.cells 25 (cRun r)))/\(zT (OB.cells 25 [iv 0,iv 0,nilv,nilv]))/\(25=25/\((zM (iv r.plates))/\(zM (iv r.last))/\zE (some (Src.same 5000))/\zE (some Src.nil)/\True)/\true=true)/\(42=42/\2=2/\x0=r.machines.length/\jm=jm/\(∀ (i14:Nat),i14 < x0->i14 ≠ jm->cMach (mach r i14)=cMach (mach r i14))/\(zE (some (Src.same 5002))/\(zM (iv (mach r jm).rate))/\True)/\true=true)/\(37=37/\2=2/\chLen r jm x0=chLen r jm r.machines.length /\ ∀ (i17:Nat),i17 < chLen r jm x0->cSpan (chg (mach r jm) i17)=cSpan (chg (mach r jm) i17))/\0=0/\nwLen r jf 0=0/\True)/\T2) ⟨⟨⟨rfl,rfl⟩,⟨rfl,rfl⟩,⟨rfl,rfl⟩,⟨(congrArg iv (o30 hp x0 hx0 h1)),rfl⟩,tv⟩,⟨⟨rfl,rfl⟩,⟨rfl,rfl⟩,⟨rfl,⟨⟨rfl,rfl⟩,⟨rfl,rfl⟩,rfl,rfl,tv⟩,rfl⟩,⟨rfl,rfl,(o31 hp x0 hx0 h1),rfl,(fun i14=>(fun h15=>(fun h16=>rfl))),⟨rfl,⟨rfl,rfl⟩,tv⟩,rfl⟩,⟨rfl,rfl,(o32 hp x0 hx0 h1),(fun i17=>(fun h18=>rfl))⟩,rfl,(o33 hp x0 hx0 h1),tv⟩,rfl,rfl⟩) (o34 hp x0 hx0 h1) (fun (x13:Nat) hx13 => ?_)
  refine swp_seq (swp_seq ?_)
  refine sQ (kt:=[1,2,3,5,43]) (kh:=[0,8,56,5000,5001,5002,5003]) (q:=tn 5) (st':=ASt.mk [(1,.ptr 0 []),(2,.ptr 8 []),(3,.ptr 56 []),(5,iv (x13:Int)),(43,bv (decide ((x13:Int) < (↑(r.found.length):Int))))] [(0,.cells 25 (cRun r)),(8,.cells 25 [iv 0,iv 0,nilv,nilv]),(56,.cells 25 [iv r.plates,iv r.last,.vec 5000,.vec 5001]),(5000,.vecx 42 2 r.machines.length (fun (k:Nat)=>cMach (mach r k)) jm [.vec 5002,iv (mach r jm).rate]),(5001,.vecx 32 3 x13 (fun (k:Nat)=>cFnd (fnd r k)) jf [iv (fnd r jf).minute,.vec 5003,aInts (fnd r jf).frm]),(5002,.vec 37 2 (chLen r jm r.machines.length) fun (p:Nat)=>cSpan (chg (mach r jm) p)),(5003,.vec 3 1 (nwLen r jf x13) fun (p:Nat)=>[iv ((fnd r jf).new.getD p 0)])] 20168) (tp 5) ?_
  refine swp_cond (decide ((x13:Int) < (↑(r.found.length):Int))) (by kernel_rfl) (fun h19 => ?_) (fun h19 => ?_)
  ·refine swp_skip (swp_seq (swp_block (swp_seq ?_)))
   refine sQ (kt:=[1,2,3,5,6]) (kh:=[0,8,56,20208,5000,5001,5002,5003]) (q:=True/\True/\True/\(0<=(x13:Int)/\(x13:Int) < (↑(r.found.length):Int))/\tn 3) (st':=ASt.mk [(1,.ptr 0 []),(2,.ptr 8 []),(3,.ptr 56 []),(5,iv (x13:Int)),(6,.ptr 20208 [])] [(0,.cells 25 (cRun r)),(8,.cells 25 [iv 0,iv 0,nilv,nilv]),(56,.cells 25 [iv r.plates,iv r.last,.vec 5000,.vec 5001]),(20208,.cells 32 (cFnd (fnd r x13))),(5000,.vecx 42 2 r.machines.length (fun (k:Nat)=>cMach (mach r k)) jm [.vec 5002,iv (mach r jm).rate]),(5001,.vecx 32 3 x13 (fun (k:Nat)=>cFnd (fnd r k)) jf [iv (fnd r jf).minute,.vec 5003,aInts (fnd r jf).frm]),(5002,.vec 37 2 (chLen r jm r.machines.length) fun (p:Nat)=>cSpan (chg (mach r jm) p)),(5003,.vec 3 1 (nwLen r jf x13) fun (p:Nat)=>[iv ((fnd r jf).new.getD p 0)])] 20224) ⟨tv,tv,tv,⟨(o35 hp x0 hx0 h1 x13 hx13 h19),(o36 hp x0 hx0 h1 x13 hx13 h19)⟩,tp 3⟩ ?_
   refine swp_cases (eqN x13 jf) (fun h20 => ?_) (fun h20 => ?_)
   ·refine sC (cs:=[(13,focS),(14,focS)]) (kt:=[1,2,3,5]) (kh:=[0,8,56,5000,20336,20280,20312,5002]) (q:=True/\True/\True/\True/\True/\True/\True/\0 + (fnd r x13).new.length<=65536/\True/\True/\True/\0 + (fnd r x13).frm.length<=65536/\True/\True/\(x13 + 1<=65536/\jf=x13)/\tn 2) (st':=ASt.mk [(1,.ptr 0 []),(2,.ptr 8 []),(3,.ptr 56 []),(5,iv (x13:Int))] [(0,.cells 25 (cRun r)),(8,.cells 25 [iv 0,iv 0,nilv,nilv]),(56,.cells 25 [iv r.plates,iv r.last,.vec 5000,.vec 20336]),(5000,.vecx 42 2 r.machines.length (fun (k:Nat)=>cMach (mach r k)) jm [.vec 5002,iv (mach r jm).rate]),(20336,.vecx 32 3 (x13 + 1) (fun (k:Nat)=>cFnd (fnd r k)) jf [iv (fnd r x13).minute,.vec 20280,.vec 20312]),(20280,.vec 3 1 (0 + (fnd r x13).new.length) fun (i:Nat)=>[iv ((fnd r x13).new.getD i 0)]),(20312,.vec 3 1 (0 + (fnd r x13).frm.length) fun (i:Nat)=>[iv ((fnd r x13).frm.getD i 0)]),(5002,.vec 37 2 (chLen r jm r.machines.length) fun (p:Nat)=>cSpan (chg (mach r jm) p))] 20360) ⟨tv,tv,tv,tv,tv,tv,tv,(o37 hp x0 hx0 h1 x13 hx13 h19 h20),tv,tv,tv,(o38 hp x0 hx0 h1 x13 hx13 h19 h20),tv,tv,⟨(o39 hp x0 hx0 h1 x13 hx13 h19 h20),(o40 hp x0 hx0 h1 x13 hx13 h19 h20)⟩,tp 2⟩ ?_
    refine sQ (kt:=[1,2,3,5]) (kh:=[0,8,56,5000,20336,5002,20280,20312]) (q:=True/\inI ((x13:Int) + 1)/\True/\True) (st':=ASt.mk [(1,.ptr 0 []),(2,.ptr 8 []),(3,.ptr 56 []),(5,iv ((x13:Int) + 1))] [(0,.cells 25 (cRun r)),(8,.cells 25 [iv 0,iv 0,nilv,nilv]),(56,.cells 25 [iv r.plates,iv r.last,.vec 5000,.vec 20336]),(5000,.vecx 42 2 r.machines.length (fun (k:Nat)=>cMach (mach r k)) jm [.vec 5002,iv (mach r jm).rate]),(20336,.vecx 32 3 (x13 + 1) (fun (k:Nat)=>cFnd (fnd r k)) jf [iv (fnd r x13).minute,.vec 20280,.vec 20312]),(5002,.vec 37 2 (chLen r jm r.machines.length) fun (p:Nat)=>cSpan (chg (mach r jm) p)),(20280,.vec 3 1 (0 + (fnd r x13).new.length) fun (i:Nat)=>[iv ((fnd r x13).new.getD i 0)]),(20312,.vec 3 1 (0 + (fnd r x13).frm.length) fun (i:Nat)=>[iv ((fnd r x13).frm.getD i 0)])] 20384) ⟨tv,(o41 hp x0 hx0 h1 x13 hx13 h19 h20),tv,tv⟩ ?_
    exact loop_next (zo20_2 r jm jf) x13 (eQ hE [20312] [(0,.same 0),(8,.same 8),(56,.same 56),(5000,.same 5000),(5002,.same 5002),(5001,.same 20336),(5003,.same 20280)] [] [0,8,5002] (((zP 0)/\(zP 8)/\(zP 56)/\(zN (iv ((x13:Int) + 1)) (iv (↑(x13 + 1):Int)))/\True)/\((zT (OB.cells 25 (cRun r)))/\(zT (OB.cells 25 [iv 0,iv 0,nilv,nilv]))/\(25=25/\((zM (iv r.plates))/\(zM (iv r.last))/\zE (some (Src.same 5000))/\zE (some (Src.same 20336))/\True)/\true=true)/\(42=42/\2=2/\zE (r.machines.length)/\jm=jm/\(∀ (i21:Nat),i21 < r.machines.length->i21 ≠ jm->cMach (mach r i21)=cMach (mach r i21))/\(zE (some (Src.same 5002))/\(zM (iv (mach r jm).rate))/\True)/\true=true)/\(zT (OB.vec 37 2 (chLen r jm r.machines.length) fun (p:Nat)=>cSpan (chg (mach r jm) p)))/\(32=32/\3=3/\zE (x13 + 1)/\jf=jf/\(∀ (i24:Nat),i24 < x13 + 1->i24 ≠ jf->cFnd (fnd r i24)=cFnd (fnd r i24))/\((zN (iv (fnd r x13).minute) (iv (fnd r jf).minute))/\zE (some (Src.same 20280))/\(1=1/\0 + (fnd r x13).frm.length=(fnd r jf).frm.length /\ ∀ (i27:Nat),i27 < (fnd r jf).frm.length -> [iv ((fnd r x13).frm.getD i27 0)] = [iv ((fnd r jf).frm.getD i27 0)])/\True)/\true=true)/\(3=3/\1=1/\0 + (fnd r x13).new.length=nwLen r jf (x13 + 1) /\ ∀ (i29:Nat),i29 < 0 + (fnd r x13).new.length -> [iv ((fnd r x13).new.getD i29 0)] = [iv ((fnd r jf).new.getD i29 0)])/\True)/\T2) ⟨⟨⟨rfl,rfl⟩,⟨rfl,rfl⟩,⟨rfl,rfl⟩,⟨(congrArg iv (o42 hp x0 hx0 h1 x13 hx13 h19 h20)),rfl⟩,tv⟩,⟨⟨rfl,rfl⟩,⟨rfl,rfl⟩,⟨rfl,⟨⟨rfl,rfl⟩,⟨rfl,rfl⟩,rfl,rfl,tv⟩,rfl⟩,⟨rfl,rfl,rfl,rfl,(fun i21=>(fun h22=>(fun h23=>rfl))),⟨rfl,⟨rfl,rfl⟩,tv⟩,rfl⟩,⟨rfl,rfl⟩,⟨rfl,rfl,rfl,rfl,(fun i24=>(fun h25=>(fun h26=>rfl))),⟨⟨(congrArg iv (o43 hp x0 hx0 h1 x13 hx13 h19 h20)),rfl⟩,rfl,⟨rfl,(o44 hp x0 hx0 h1 x13 hx13 h19 h20),(fun i27=>(fun h28=>(o45 hp x0 hx0 h1 x13 hx13 h19 h20 i27 h28)))⟩,tv⟩,rfl⟩,⟨rfl,rfl,(o46 hp x0 hx0 h1 x13 hx13 h19 h20),(fun i29=>(fun h30=>(o47 hp x0 hx0 h1 x13 hx13 h19 h20 i29 h30)))⟩,tv⟩,rfl,rfl⟩) (o48 hp x0 hx0 h1 x13 hx13 h19 h20) (o49 hp x0 hx0 h1 x13 hx13 h19 h20)
   ·refine sQ (kt:=[1,2,3,5]) (kh:=[0,8,56,5000,20336,5003,5002]) (q:=True/\True/\True/\True/\True/\True/\True/\0 + (fnd r x13).new.length<=65536/\True/\True/\True/\0 + (fnd r x13).frm.length<=65536/\True/\True/\(x13 + 1<=65536/\(jf < x13 ∨ x13 + 1<=jf))/\tn 2) (st':=ASt.mk [(1,.ptr 0 []),(2,.ptr 8 []),(3,.ptr 56 []),(5,iv (x13:Int))] [(0,.cells 25 (cRun r)),(8,.cells 25 [iv 0,iv 0,nilv,nilv]),(56,.cells 25 [iv r.plates,iv r.last,.vec 5000,.vec 20336]),(5000,.vecx 42 2 r.machines.length (fun (k:Nat)=>cMach (mach r k)) jm [.vec 5002,iv (mach r jm).rate]),(20336,.vecx 32 3 (x13 + 1) (catF x13 (fun (k:Nat)=>cFnd (fnd r k)) fun (j:Nat)=>List.getD [[iv (fnd r x13).minute,.sl 1 (0 + (fnd r x13).new.length) fun (i:Nat)=>[iv ((fnd r x13).new.getD i 0)],.sl 1 (0 + (fnd r x13).frm.length) fun (i:Nat)=>[iv ((fnd r x13).frm.getD i 0)]]] j (TI.za ti32)) jf [iv (fnd r jf).minute,.vec 5003,aInts (fnd r jf).frm]),(5003,.vec 3 1 (nwLen r jf x13) fun (p:Nat)=>[iv ((fnd r jf).new.getD p 0)]),(5002,.vec 37 2 (chLen r jm r.machines.length) fun (p:Nat)=>cSpan (chg (mach r jm) p))] 20360) ⟨tv,tv,tv,tv,tv,tv,tv,(o50 hp x0 hx0 h1 x13 hx13 h19 h20),tv,tv,tv,(o51 hp x0 hx0 h1 x13 hx13 h19 h20),tv,tv,⟨(o52 hp x0 hx0 h1 x13 hx13 h19 h20),(o53 hp x0 hx0 h1 x13 hx13 h19 h20)⟩,tp 2⟩ ?_
    refine sQ (kt:=[1,2,3,5]) (kh:=[0,8,56,5000,20336,5002,5003]) (q:=True/\inI ((x13:Int) + 1)/\True/\True) (st':=ASt.mk [(1,.ptr 0 []),(2,.ptr 8 []),(3,.ptr 56 []),(5,iv ((x13:Int) + 1))] [(0,.cells 25 (cRun r)),(8,.cells 25 [iv 0,iv 0,nilv,nilv]),(56,.cells 25 [iv r.plates,iv r.last,.vec 5000,.vec 20336]),(5000,.vecx 42 2 r.machines.length (fun (k:Nat)=>cMach (mach r k)) jm [.vec 5002,iv (mach r jm).rate]),(20336,.vecx 32 3 (x13 + 1) (catF x13 (fun (k:Nat)=>cFnd (fnd r k)) fun (j:Nat)=>List.getD [[iv (fnd r x13).minute,.sl 1 (0 + (fnd r x13).new.length) fun (i:Nat)=>[iv ((fnd r x13).new.getD i 0)],.sl 1 (0 + (fnd r x13).frm.length) fun (i:Nat)=>[iv ((fnd r x13).frm.getD i 0)]]] j (TI.za ti32)) jf [iv (fnd r jf).minute,.vec 5003,aInts (fnd r jf).frm]),(5002,.vec 37 2 (chLen r jm r.machines.length) fun (p:Nat)=>cSpan (chg (mach r jm) p)),(5003,.vec 3 1 (nwLen r jf x13) fun (p:Nat)=>[iv ((fnd r jf).new.getD p 0)])] 20384) ⟨tv,(o54 hp x0 hx0 h1 x13 hx13 h19 h20),tv,tv⟩ ?_
    exact loop_next (zo20_2 r jm jf) x13 (eQ hE [] [(0,.same 0),(8,.same 8),(56,.same 56),(5000,.same 5000),(5002,.same 5002),(5001,.same 20336),(5003,.same 5003)] [] [0,8,5002] (((zP 0)/\(zP 8)/\(zP 56)/\(zN (iv ((x13:Int) + 1)) (iv (↑(x13 + 1):Int)))/\True)/\((zT (OB.cells 25 (cRun r)))/\(zT (OB.cells 25 [iv 0,iv 0,nilv,nilv]))/\(25=25/\((zM (iv r.plates))/\(zM (iv r.last))/\zE (some (Src.same 5000))/\zE (some (Src.same 20336))/\True)/\true=true)/\(42=42/\2=2/\zE (r.machines.length)/\jm=jm/\(∀ (i31:Nat),i31 < r.machines.length->i31 ≠ jm->cMach (mach r i31)=cMach (mach r i31))/\(zE (some (Src.same 5002))/\(zM (iv (mach r jm).rate))/\True)/\true=true)/\(zT (OB.vec 37 2 (chLen r jm r.machines.length) fun (p:Nat)=>cSpan (chg (mach r jm) p)))/\(32=32/\3=3/\zE (x13 + 1)/\jf=jf/\(∀ (i34:Nat),i34 < x13 + 1->i34 ≠ jf->catF x13 (fun (k:Nat)=>cFnd (fnd r k)) (fun (j:Nat)=>List.getD [[iv (fnd r x13).minute,AV.sl 1 (0 + (fnd r x13).new.length) fun (i:Nat)=>[iv ((fnd r x13).new.getD i 0)],AV.sl 1 (0 + (fnd r x13).frm.length) fun (i:Nat)=>[iv ((fnd r x13).frm.getD i 0)]]] j (TI.za ti32)) i34=cFnd (fnd r i34))/\((zM (iv (fnd r jf).minute))/\zE (some (Src.same 5003))/\(1=1/\(fnd r jf).frm.length=(fnd r jf).frm.length /\ ∀ (i37:Nat),i37 < (fnd r jf).frm.length -> [iv ((fnd r jf).frm.getD i37 0)] = [iv ((fnd r jf).frm.getD i37 0)])/\True)/\true=true)/\(3=3/\1=1/\nwLen r jf x13=nwLen r jf (x13 + 1) /\ ∀ (i39:Nat),i39 < nwLen r jf x13 -> [iv ((fnd r jf).new.getD i39 0)] = [iv ((fnd r jf).new.getD i39 0)])/\True)/\T2) ⟨⟨⟨rfl,rfl⟩,⟨rfl,rfl⟩,⟨rfl,rfl⟩,⟨(congrArg iv (o55 hp x0 hx0 h1 x13 hx13 h19 h20)),rfl⟩,tv⟩,⟨⟨rfl,rfl⟩,⟨rfl,rfl⟩,⟨rfl,⟨⟨rfl,rfl⟩,⟨rfl,rfl⟩,rfl,rfl,tv⟩,rfl⟩,⟨rfl,rfl,rfl,rfl,(fun i31=>(fun h32=>(fun h33=>rfl))),⟨rfl,⟨rfl,rfl⟩,tv⟩,rfl⟩,⟨rfl,rfl⟩,⟨rfl,rfl,rfl,rfl,(fun i34=>(fun h35=>(fun h36=>(o56 hp x0 hx0 h1 x13 hx13 h19 h20 i34 h35 h36)))),⟨⟨rfl,rfl⟩,rfl,⟨rfl,rfl,(fun i37=>(fun h38=>rfl))⟩,tv⟩,rfl⟩,⟨rfl,rfl,(o57 hp x0 hx0 h1 x13 hx13 h19 h20),(fun i39=>(fun h40=>rfl))⟩,tv⟩,rfl,rfl⟩) (o58 hp x0 hx0 h1 x13 hx13 h19 h20) (o59 hp x0 hx0 h1 x13 hx13 h19 h20)
  ·refine swp_exit (swp_seq ?_)
   refine sQ (kt:=[2]) (kh:=[8,5000,5001,5002,5003]) (q:=tn 2) (st':=ASt.mk [(2,.ptr 8 [])] [(8,.cells 25 [iv r.plates,iv r.last,.vec 5000,.vec 5001]),(5000,.vecx 42 2 r.machines.length (fun (k:Nat)=>cMach (mach r k)) jm [.vec 5002,iv (mach r jm).rate]),(5001,.vecx 32 3 x13 (fun (k:Nat)=>cFnd (fnd r k)) jf [iv (fnd r jf).minute,.vec 5003,aInts (fnd r jf).frm]),(5002,.vec 37 2 (chLen r jm r.machines.length) fun (p:Nat)=>cSpan (chg (mach r jm) p)),(5003,.vec 3 1 (nwLen r jf x13) fun (p:Nat)=>[iv ((fnd r jf).new.getD p 0)])] 20184) (tp 2) ?_
   refine swp_ret ?_
   exact ret_o (ASt.mk [(2,AV.ptr 90 [])] [(90,OB.cells 25 [iv r.plates,iv r.last,AV.vec 0,AV.vec 1]),(0,OB.vecx 42 2 r.machines.length (fun (k:Nat)=>cMach (mach r k)) jm [AV.vec 2,iv (mach r jm).rate]),(1,OB.vecx 32 3 r.found.length (fun (k:Nat)=>cFnd (fnd r k)) jf [iv (fnd r jf).minute,AV.vec 3,aInts (fnd r jf).frm]),(2,OB.vec 37 2 (chLen r jm r.machines.length) fun (p:Nat)=>cSpan (chg (mach r jm) p)),(3,OB.vec 3 1 (nwLen r jf r.found.length) fun (p:Nat)=>[iv ((fnd r jf).new.getD p 0)])] 100) (eQ hE [] [(90,.same 8),(0,.same 5000),(2,.same 5002),(1,.same 5001),(3,.same 5003)] [] [] (((zP 8)/\True)/\((25=25/\((zM (iv r.plates))/\(zM (iv r.last))/\zE (some (Src.same 5000))/\zE (some (Src.same 5001))/\True)/\true=true)/\(42=42/\2=2/\zE (r.machines.length)/\jm=jm/\(∀ (i41:Nat),i41 < r.machines.length->i41 ≠ jm->cMach (mach r i41)=cMach (mach r i41))/\(zE (some (Src.same 5002))/\(zM (iv (mach r jm).rate))/\True)/\true=true)/\(32=32/\3=3/\x13=r.found.length/\jf=jf/\(∀ (i44:Nat),i44 < x13->i44 ≠ jf->cFnd (fnd r i44)=cFnd (fnd r i44))/\((zM (iv (fnd r jf).minute))/\zE (some (Src.same 5003))/\(1=1/\(fnd r jf).frm.length=(fnd r jf).frm.length /\ ∀ (i47:Nat),i47 < (fnd r jf).frm.length -> [iv ((fnd r jf).frm.getD i47 0)] = [iv ((fnd r jf).frm.getD i47 0)])/\True)/\true=true)/\(37=37/\2=2/\chLen r jm r.machines.length=chLen r jm r.machines.length /\ ∀ (i49:Nat),i49 < chLen r jm r.machines.length->cSpan (chg (mach r jm) i49)=cSpan (chg (mach r jm) i49))/\(3=3/\1=1/\nwLen r jf x13=nwLen r jf r.found.length /\ ∀ (i51:Nat),i51 < nwLen r jf x13 -> [iv ((fnd r jf).new.getD i51 0)] = [iv ((fnd r jf).new.getD i51 0)])/\True)/\T2) ⟨⟨⟨rfl,rfl⟩,tv⟩,⟨⟨rfl,⟨⟨rfl,rfl⟩,⟨rfl,rfl⟩,rfl,rfl,tv⟩,rfl⟩,⟨rfl,rfl,rfl,rfl,(fun i41=>(fun h42=>(fun h43=>rfl))),⟨rfl,⟨rfl,rfl⟩,tv⟩,rfl⟩,⟨rfl,rfl,(o60 hp x0 hx0 h1 x13 hx13 h19),rfl,(fun i44=>(fun h45=>(fun h46=>rfl))),⟨⟨rfl,rfl⟩,rfl,⟨rfl,rfl,(fun i47=>(fun h48=>rfl))⟩,tv⟩,rfl⟩,⟨rfl,rfl,rfl,(fun i49=>(fun h50=>rfl))⟩,⟨rfl,rfl,(o61 hp x0 hx0 h1 x13 hx13 h19),(fun i51=>(fun h52=>rfl))⟩,tv⟩,rfl,rfl⟩) ((True/\True)/\zE (AV.agg [iv r.plates,iv r.last,AV.vec 0,AV.vec 1])/\zE (some (OB.vecx 42 2 r.machines.length (fun (k:Nat)=>cMach (mach r k)) jm [AV.vec 2,iv (mach r jm).rate]))/\zE (some (OB.vecx 32 3 r.found.length (fun (k:Nat)=>cFnd (fnd r k)) jf [iv (fnd r jf).minute,AV.vec 3,aInts (fnd r jf).frm]))/\zE (some (OB.vec 37 2 (chLen r jm r.machines.length) fun (p:Nat)=>cSpan (chg (mach r jm) p)))/\zE (some (OB.vec 3 1 (nwLen r jf r.found.length) fun (p:Nat)=>[iv ((fnd r jf).new.getD p 0)]))/\True) (by kernel_rfl) ⟨⟨tv,tv⟩,rfl,rfl,rfl,rfl,rfl,tv⟩
theorem to20 (r:Run) (jm jf:Nat) (l:List (Nat × Nat)) (hl:l.map (·.1) = [0,1,2,3]) (hnd:(l.map (·.2)).Nodup):Triple Try.prog 20 ((ou20 r jm jf).at l):=by
  apply wo20
  case hl=>exact hl
  case hnd=>exact hnd
  all_goals (first
    | ((repeat intro _) <;> (try simp only [v0,v1,v2,v3,v4,v5,v6,v7,v8,v9,inI,fits,Go.Sh.small] at *) <;> first | (exact rfl) | omega | exact vz | (simp_all; done) | (simp_all; omega))
    | (intro hp; first | rfl | (simp [chLen]; done) | (simp [nwLen]; done))
    | (intro hp x hx hl2
       have h1:(mach r x).changes.length<=65536:=hp.2.2.1 x
       have h2:=hp.1
       have h3:=hp.2.1
       simp only [decide_eq_true_eq,decide_eq_false_iff_not] at hl2
       first
       | omega
       | (rw [show x=r.machines.length by omega]; done)
       | (rw [nwLen,if_neg (Nat.not_lt_zero _)]; done)
       | (intro e
          first
          | (have e2:=eqN_t e
             subst e2
             first
             | omega
             | (simp only [inI]; omega)
             | rfl
             | (rw [chLen_self]; omega)
             | (intro i hi; rfl))
          | (have e2:=eqN_f e
             first
             | omega
             | (simp only [inI]; omega)
             | (rw [chLen_other e2]; done)
             | (intro i hi hij; exact catF_idx (fun k=>cMach (mach r k)) (by simp only [cMach,aSpans,cSpan,Nat.zero_add]) hi)))
       | (intro y hy hyl
          have h4:=(hp.2.2.2 y).1
          have h5:=(hp.2.2.2 y).2
          simp only [decide_eq_true_eq,decide_eq_false_iff_not] at hyl
          first
          | omega
          | (rw [show y=r.found.length by omega]; done)
          | (intro e
             first
             | (have e2:=eqN_t e
                subst e2
                first
                | omega
                | (simp only [inI]; omega)
                | rfl
                | (rw [nwLen_self]; omega)
                | (intro i hi; rfl))
             | (have e2:=eqN_f e
                first
                | omega
                | (simp only [inI]; omega)
                | (rw [nwLen_other e2]; done)
                | (intro i hi hij; exact catF_idx (fun k=>cFnd (fnd r k)) (by simp only [cFnd,aInts,Nat.zero_add]) hi))))))
def s20o (r:Run) (jm jf:Nat) (id:Nat):CallSpec:=(ou20 r jm jf).at [(0,id),(1,id + 1),(2,id + 2),(3,id + 3)]
theorem t20o (r:Run) (jm jf:Nat) (id:Nat):Triple Try.prog 20 (s20o r jm jf id):=to20 r jm jf _ rfl (by simp)
end Go.Ab
namespace Go.Sh
def exR:Run:=⟨2,10,[⟨[⟨2,5⟩,⟨2,8⟩],3⟩,⟨[⟨4,9⟩,⟨0,9⟩],5⟩],[⟨4,[1,0],[0,1]⟩,⟨6,[-1,1],[0,1]⟩,⟨3,[0,-1],[0]⟩]⟩
def exQ:Run:=⟨2,10,[⟨[⟨2,5⟩,⟨2,8⟩],3⟩,⟨[⟨4,9⟩,⟨0,9⟩],5⟩],[⟨4,[1,0],[0,1]⟩,⟨6,[0,1],[0,1]⟩,⟨3,[0,-1],[0]⟩]⟩
end Go.Sh
namespace Go.Ab
open Go Go.RowKit Go.Proofs Go.Sh Go.En
def s77:CallSpec:={ args:=[],res := .tup [vRun exR,vRun exQ] }
def c77 (id:Nat):CallSpec:=s20o exR 2 1 id
def s77o (r q:Run):CallSpec:={ args:=[],res := .tup [vRun r,vRun q],pre:=r=exR/\q=exQ }
end Go.Ab
namespace Go.Ab
open Go Go.RowKit Go.Proofs Go.Sh Go.En
theorem w77 
 (o0:2=Run.plates exR)
 (o1:10=Run.last exR)
 (o2:∀ (i4:Nat),i4 < exR.machines.length->List.getD [[AV.sl 2 2 fun (j:Nat)=>List.getD [[iv 2,iv 5],[iv 2,iv 8]] j (TI.za ti37),iv 3],[AV.sl 2 2 fun (j:Nat)=>List.getD [[iv 4,iv 9],[iv 0,iv 9]] j (TI.za ti37),iv 5]] i4 (TI.za ti42)=cMach (mach exR i4))
 (o3:∀ (i6:Nat),i6 < exR.found.length->List.getD [[iv 4,AV.sl 1 2 fun (j:Nat)=>List.getD [[iv 1],[iv 0]] j (TI.za ti3),AV.sl 1 2 fun (j:Nat)=>List.getD [[iv 0],[iv 1]] j (TI.za ti3)],[iv 6,AV.sl 1 2 fun (j:Nat)=>List.getD [[iv (-1)],[iv 1]] j (TI.za ti3),AV.sl 1 2 fun (j:Nat)=>List.getD [[iv 0],[iv 1]] j (TI.za ti3)],[iv 3,AV.sl 1 2 fun (j:Nat)=>List.getD [[iv 0],[iv (-1)]] j (TI.za ti3),AV.sl 1 1 fun (j:Nat)=>List.getD [[iv 0]] j (TI.za ti3)]] i6 (TI.za ti32)=cFnd (fnd exR i6))
 (o4:small exR)
 (o5:∀ (i12:Nat),i12 < (mach exR 2).changes.length->cSpan (chg (mach exR 2) i12) = [iv ((mach exR 2).changes.getD i12 default).lo,iv ((mach exR 2).changes.getD i12 default).hi])
 (o6:∀ (i14:Nat),i14 < exR.found.length->i14 ≠ 1->cFnd (fnd exR i14)=cFnd (fnd exQ i14))
 (o7:Fnd.minute (fnd exR 1)=Fnd.minute (fnd exQ 1))
 (o8:∀ (i17:Nat),i17 < (fnd exQ 1).new.length->Decidable.rec (fun (h:¬i17=0)=>[iv ((fnd exR 1).new.getD i17 0)]) (fun (h:i17=0)=>[iv 0] ++ []) (instDecidableEqNat i17 0) = [iv ((fnd exQ 1).new.getD i17 0)])
 (o9:∀ (i19:Nat),i19 < (fnd exQ 1).frm.length -> [iv ((fnd exR 1).frm.getD i19 0)] = [iv ((fnd exQ 1).frm.getD i19 0)])
 (o10:Run.plates exR=Run.plates exQ)
 (o11:Run.last exR=Run.last exQ)
 (o12:∀ (i21:Nat),i21 < exQ.machines.length->cMach (mach exR i21)=cMach (mach exQ i21)) :
  Triple Try.prog 77 (s77):=by
 refine triple_of Try.func77 rfl Try.call77 T0_ok _ rfl rfl rfl rfl (Nat.le_of_ble_eq_true (by kernel_rfl)) (fun _ _ _ _ h=>h) ?_
 intro _ C hC _ hE
 obtain ⟨P,w0,E0,av,hA⟩:=C
 subst hC
 refine swp_seq ?_
 refine sQ (kt:=[0,1]) (kh:=[0,8]) (q:=tn 2) (st':=ASt.mk [(0,.ptr 0 []),(1,.ptr 8 [])] [(0,.cells 25 [iv 0,iv 0,nilv,nilv]),(8,.cells 25 [iv 0,iv 0,nilv,nilv])] 16) (tp 2) ?_
 refine swp_seq ?_
 refine sC (cs:=[(0,CallSpec.eq (s29 2 5) [true,true]),(1,CallSpec.eq (s29 2 8) [true,true]),(4,CallSpec.eq (s29 4 9) [true,true]),(5,CallSpec.eq (s29 0 9) [true,true])]) (kt:=[0,1]) (kh:=[0,8,80,160]) (q:=((iv 2=iv 2/\iv 5=iv 5/\True)/\Triple Try.prog 29 (s29 2 5)/\True/\True /\ ∀ (i0:Env),True)/\((iv 2=iv 2/\iv 8=iv 8/\True)/\Triple Try.prog 29 (s29 2 8)/\True/\True /\ ∀ (i1:Env),True)/\True/\True/\((iv 4=iv 4/\iv 9=iv 9/\True)/\Triple Try.prog 29 (s29 4 9)/\True/\True /\ ∀ (i2:Env),True)/\((iv 0=iv 0/\iv 9=iv 9/\True)/\Triple Try.prog 29 (s29 0 9)/\True/\True /\ ∀ (i3:Env),True)/\tn 15) (st':=ASt.mk [(0,.ptr 0 []),(1,.ptr 8 [])] [(0,.cells 25 [iv 2,iv 10,.vec 80,.vec 160]),(8,.cells 25 [iv 0,iv 0,nilv,nilv]),(80,.vec 42 2 2 fun (j:Nat)=>List.getD [[.sl 2 2 fun (j:Nat)=>List.getD [[iv 2,iv 5],[iv 2,iv 8]] j (TI.za ti37),iv 3],[.sl 2 2 fun (j:Nat)=>List.getD [[iv 4,iv 9],[iv 0,iv 9]] j (TI.za ti37),iv 5]] j (TI.za ti42)),(160,.vec 32 3 3 fun (j:Nat)=>List.getD [[iv 4,.sl 1 2 fun (j:Nat)=>List.getD [[iv 1],[iv 0]] j (TI.za ti3),.sl 1 2 fun (j:Nat)=>List.getD [[iv 0],[iv 1]] j (TI.za ti3)],[iv 6,.sl 1 2 fun (j:Nat)=>List.getD [[iv (-1)],[iv 1]] j (TI.za ti3),.sl 1 2 fun (j:Nat)=>List.getD [[iv 0],[iv 1]] j (TI.za ti3)],[iv 3,.sl 1 2 fun (j:Nat)=>List.getD [[iv 0],[iv (-1)]] j (TI.za ti3),.sl 1 1 fun (j:Nat)=>List.getD [[iv 0]] j (TI.za ti3)]] j (TI.za ti32))] 184) ⟨⟨⟨rfl,rfl,tv⟩,(t29 (2) (5)),tv,tv,(fun i0=>tv)⟩,⟨⟨rfl,rfl,tv⟩,(t29 (2) (8)),tv,tv,(fun i1=>tv)⟩,tv,tv,⟨⟨rfl,rfl,tv⟩,(t29 (4) (9)),tv,tv,(fun i2=>tv)⟩,⟨⟨rfl,rfl,tv⟩,(t29 (0) (9)),tv,tv,(fun i3=>tv)⟩,tp 15⟩ ?_
 refine swp_seq ?_
 refine swp_ent (eQ (st2:=ASt.mk [(0,AV.ptr 0 []),(1,AV.ptr 8 [])] [(0,OB.cells 25 (cRun exR)),(8,OB.cells 25 [iv 0,iv 0,nilv,nilv])] 184) hE [80,160] [(0,.same 0),(8,.same 8)] [] [8] (((zP 0)/\(zP 8)/\True)/\((25=25/\((zN (iv 2) (iv exR.plates))/\(zN (iv 10) (iv exR.last))/\(2=2/\2=exR.machines.length /\ ∀ (i4:Nat),i4 < exR.machines.length->List.getD [[AV.sl 2 2 fun (j:Nat)=>List.getD [[iv 2,iv 5],[iv 2,iv 8]] j (TI.za ti37),iv 3],[AV.sl 2 2 fun (j:Nat)=>List.getD [[iv 4,iv 9],[iv 0,iv 9]] j (TI.za ti37),iv 5]] i4 (TI.za ti42)=cMach (mach exR i4))/\(3=3/\3=exR.found.length /\ ∀ (i6:Nat),i6 < exR.found.length->List.getD [[iv 4,AV.sl 1 2 fun (j:Nat)=>List.getD [[iv 1],[iv 0]] j (TI.za ti3),AV.sl 1 2 fun (j:Nat)=>List.getD [[iv 0],[iv 1]] j (TI.za ti3)],[iv 6,AV.sl 1 2 fun (j:Nat)=>List.getD [[iv (-1)],[iv 1]] j (TI.za ti3),AV.sl 1 2 fun (j:Nat)=>List.getD [[iv 0],[iv 1]] j (TI.za ti3)],[iv 3,AV.sl 1 2 fun (j:Nat)=>List.getD [[iv 0],[iv (-1)]] j (TI.za ti3),AV.sl 1 1 fun (j:Nat)=>List.getD [[iv 0]] j (TI.za ti3)]] i6 (TI.za ti32)=cFnd (fnd exR i6))/\True)/\true=true)/\(zT (OB.cells 25 [iv 0,iv 0,nilv,nilv]))/\True)/\T2) ⟨⟨⟨rfl,rfl⟩,⟨rfl,rfl⟩,tv⟩,⟨⟨rfl,⟨⟨(congrArg iv (o0)),rfl⟩,⟨(congrArg iv (o1)),rfl⟩,⟨rfl,(by decide),(fun i4=>(fun h5=>(o2 i4 h5)))⟩,⟨rfl,(by decide),(fun i6=>(fun h7=>(o3 i6 h7)))⟩,tv⟩,rfl⟩,⟨rfl,rfl⟩,tv⟩,rfl,rfl⟩) ?_
 refine sC (cs:=[(1,CallSpec.eq (c77 192) [true])]) (kt:=[0,1]) (kh:=[0,8,192,193,195,194]) (q:=True/\((zE (AV.agg (cRun exR))/\True)/\Triple Try.prog 20 (c77 192)/\small exR/\True /\ ∀ (i8:Env),True)/\True/\True) (st':=ASt.mk [(0,.ptr 0 []),(1,.ptr 8 [])] [(0,.cells 25 (cRun exR)),(8,.cells 25 [iv exR.plates,iv exR.last,.vec 192,.vec 193]),(192,.vecx 42 2 exR.machines.length (fun (k:Nat)=>cMach (mach exR k)) 2 [.vec 194,iv (mach exR 2).rate]),(193,.vecx 32 3 exR.found.length (fun (k:Nat)=>cFnd (fnd exR k)) 1 [iv (fnd exR 1).minute,.vec 195,.sl 1 (fnd exR 1).frm.length fun (i:Nat)=>[iv ((fnd exR 1).frm.getD i 0)]]),(195,.vec 3 1 (nwLen exR 1 exR.found.length) fun (p:Nat)=>[iv ((fnd exR 1).new.getD p 0)]),(194,.vec 37 2 (chLen exR 2 exR.machines.length) fun (p:Nat)=>cSpan (chg (mach exR 2) p))] 208) ⟨tv,⟨⟨rfl,tv⟩,(t20o (exR) (2) (1) (192)),(o4),tv,(fun i8=>tv)⟩,tv,tv⟩ ?_
 refine swp_seq ?_
 refine sQ (kt:=[0,1]) (kh:=[0,8,192,193,194,195]) (q:=True/\True/\(Int.ofNat 0<=Int.ofNat 1/\1 < (↑(exR.found.length):Int))/\True/\(1=1/\1 < exR.found.length/\True)/\(Int.ofNat 0<=Int.ofNat 0/\0 < (↑(nwLen exR 1 exR.found.length):Int))/\(0 < nwLen exR 1 exR.found.length/\True)/\True) (st':=ASt.mk [(0,.ptr 0 []),(1,.ptr 8 [])] [(0,.cells 25 (cRun exR)),(8,.cells 25 [iv exR.plates,iv exR.last,.vec 192,.vec 193]),(192,.vecx 42 2 exR.machines.length (fun (k:Nat)=>cMach (mach exR k)) 2 [.vec 194,iv (mach exR 2).rate]),(193,.vecx 32 3 exR.found.length (fun (k:Nat)=>cFnd (fnd exR k)) 1 [iv (fnd exR 1).minute,.vec 195,.sl 1 (fnd exR 1).frm.length fun (i:Nat)=>[iv ((fnd exR 1).frm.getD i 0)]]),(194,.vec 37 2 (chLen exR 2 exR.machines.length) fun (p:Nat)=>cSpan (chg (mach exR 2) p)),(195,.vec 3 1 (nwLen exR 1 exR.found.length) fun (j:Nat)=>Decidable.rec (fun (h:¬j=0)=>[iv ((fnd exR 1).new.getD j 0)]) (fun (h:j=0)=>[iv 0] ++ []) (instDecidableEqNat j 0))] 264) ⟨tv,tv,⟨(by decide),(by decide)⟩,tv,⟨rfl,(by decide),tv⟩,⟨(by decide),(by decide)⟩,⟨(by decide),tv⟩,tv⟩ ?_
 refine swp_seq ?_
 refine swp_ent (eQ (st2:=ASt.mk [(0,AV.ptr 0 []),(1,AV.ptr 8 [])] [(192,OB.vec 42 2 2 fun (k:Nat)=>cMach (mach exR k)),(193,OB.vec 32 3 3 fun (k:Nat)=>cFnd (fnd exQ k)),(0,OB.cells 25 (cRun exR)),(8,OB.cells 25 [iv exR.plates,iv exR.last,AV.vec 192,AV.vec 193])] 264) hE [194,195] [(0,.same 0),(8,.same 8),(192,.same 192),(193,.same 193)] [] [0] (((zP 0)/\(zP 8)/\True)/\((42=42/\2=2/\exR.machines.length=2/\(∀ (i9:Nat),i9 < exR.machines.length->i9 ≠ 2->cMach (mach exR i9)=cMach (mach exR i9))/\((2=2/\chLen exR 2 exR.machines.length=(mach exR 2).changes.length /\ ∀ (i12:Nat),i12 < (mach exR 2).changes.length->cSpan (chg (mach exR 2) i12) = [iv ((mach exR 2).changes.getD i12 default).lo,iv ((mach exR 2).changes.getD i12 default).hi])/\(zM (iv (mach exR 2).rate))/\True)/\T2)/\(32=32/\3=3/\exR.found.length=3/\(∀ (i14:Nat),i14 < exR.found.length->i14 ≠ 1->cFnd (fnd exR i14)=cFnd (fnd exQ i14))/\((zN (iv (fnd exR 1).minute) (iv (fnd exQ 1).minute))/\(1=1/\nwLen exR 1 exR.found.length=(fnd exQ 1).new.length /\ ∀ (i17:Nat),i17 < (fnd exQ 1).new.length->Decidable.rec (fun (h:¬i17=0)=>[iv ((fnd exR 1).new.getD i17 0)]) (fun (h:i17=0)=>[iv 0] ++ []) (instDecidableEqNat i17 0) = [iv ((fnd exQ 1).new.getD i17 0)])/\(1=1/\(fnd exR 1).frm.length=(fnd exQ 1).frm.length /\ ∀ (i19:Nat),i19 < (fnd exQ 1).frm.length -> [iv ((fnd exR 1).frm.getD i19 0)] = [iv ((fnd exQ 1).frm.getD i19 0)])/\True)/\T2)/\(zT (OB.cells 25 (cRun exR)))/\(25=25/\((zM (iv exR.plates))/\(zM (iv exR.last))/\zE (some (Src.same 192))/\zE (some (Src.same 193))/\True)/\true=true)/\True)/\T2) ⟨⟨⟨rfl,rfl⟩,⟨rfl,rfl⟩,tv⟩,⟨⟨rfl,rfl,(by decide),(fun i9=>(fun h10=>(fun h11=>rfl))),⟨⟨rfl,(by decide),(fun i12=>(fun h13=>(o5 i12 h13)))⟩,⟨rfl,rfl⟩,tv⟩,rfl,rfl⟩,⟨rfl,rfl,(by decide),(fun i14=>(fun h15=>(fun h16=>(o6 i14 h15 h16)))),⟨⟨(congrArg iv (o7)),rfl⟩,⟨rfl,(by decide),(fun i17=>(fun h18=>(o8 i17 h18)))⟩,⟨rfl,(by decide),(fun i19=>(fun h20=>(o9 i19 h20)))⟩,tv⟩,rfl,rfl⟩,⟨rfl,rfl⟩,⟨rfl,⟨⟨rfl,rfl⟩,⟨rfl,rfl⟩,rfl,rfl,tv⟩,rfl⟩,tv⟩,rfl,rfl⟩) ?_
 refine swp_ent (eQ (st2:=ASt.mk [(0,AV.ptr 0 []),(1,AV.ptr 8 [])] [(8,OB.cells 25 (cRun exQ)),(0,OB.cells 25 (cRun exR))] 264) hE [192,193] [(0,.same 0),(8,.same 8)] [] [0] (((zP 0)/\(zP 8)/\True)/\((25=25/\((zN (iv exR.plates) (iv exQ.plates))/\(zN (iv exR.last) (iv exQ.last))/\(2=2/\2=exQ.machines.length /\ ∀ (i21:Nat),i21 < exQ.machines.length->cMach (mach exR i21)=cMach (mach exQ i21))/\(3=3/\3=exQ.found.length /\ ∀ (i23:Nat),i23 < exQ.found.length->cFnd (fnd exQ i23)=cFnd (fnd exQ i23))/\True)/\true=true)/\(zT (OB.cells 25 (cRun exR)))/\True)/\T2) ⟨⟨⟨rfl,rfl⟩,⟨rfl,rfl⟩,tv⟩,⟨⟨rfl,⟨⟨(congrArg iv (o10)),rfl⟩,⟨(congrArg iv (o11)),rfl⟩,⟨rfl,(by decide),(fun i21=>(fun h22=>(o12 i21 h22)))⟩,⟨rfl,(by decide),(fun i23=>(fun h24=>rfl))⟩,tv⟩,rfl⟩,⟨rfl,rfl⟩,tv⟩,rfl,rfl⟩) ?_
 refine sQ (kt:=[0,1]) (kh:=[0,8]) (q:=tn 4) (st':=ASt.mk [(0,.ptr 0 []),(1,.ptr 8 [])] [(0,.cells 25 (cRun exR)),(8,.cells 25 (cRun exQ))] 296) (tp 4) ?_
 refine swp_ret ?_
 exact rQ [] ((True/\True/\True)/\(((zM (iv exR.plates))/\(zM (iv exR.last))/\(2=2/\exR.machines.length=exR.machines.length /\ ∀ (i25:Nat),i25 < exR.machines.length->cMach (mach exR i25)=cMach (mach exR i25))/\(3=3/\exR.found.length=exR.found.length /\ ∀ (i27:Nat),i27 < exR.found.length->cFnd (fnd exR i27)=cFnd (fnd exR i27))/\True)/\((zM (iv exQ.plates))/\(zM (iv exQ.last))/\(2=2/\exQ.machines.length=exQ.machines.length /\ ∀ (i29:Nat),i29 < exQ.machines.length->cMach (mach exQ i29)=cMach (mach exQ i29))/\(3=3/\exQ.found.length=exQ.found.length /\ ∀ (i31:Nat),i31 < exQ.found.length->cFnd (fnd exQ i31)=cFnd (fnd exQ i31))/\True)/\True)/\T3) ⟨⟨tv,tv,tv⟩,⟨⟨⟨rfl,rfl⟩,⟨rfl,rfl⟩,⟨rfl,rfl,(fun i25=>(fun h26=>rfl))⟩,⟨rfl,rfl,(fun i27=>(fun h28=>rfl))⟩,tv⟩,⟨⟨rfl,rfl⟩,⟨rfl,rfl⟩,⟨rfl,rfl,(fun i29=>(fun h30=>rfl))⟩,⟨rfl,rfl,(fun i31=>(fun h32=>rfl))⟩,tv⟩,tv⟩,rfl,rfl,rfl⟩
theorem sl_ext {sz n:Nat} {f g:Nat->List AV} (h:∀ j,f j=g j):AV.sl sz n f = .sl sz n g:=by rw [funext h]
theorem cell3 {c a b a' b':AV} (h:a=a') (k:b=b'):[c,a,b] = [c,a',b']:=by rw [h,k]
theorem short_list {α β:Type} {l:List α} {d:α} {f:α->List β} {n:Nat} (h:l.all (fun x=>decide ((f x).length<=n))=true) (hd:(f d).length<=n) (i:Nat):(f (l.getD i d)).length<=n:=by
 by_cases hi:i < l.length
 ·have:=List.all_eq_true.1 h _ (getD_mem l d hi)
  simpa using this
 ·rw [getD_ge _ _ (by omega)]; exact hd
theorem small_exR:small exR:=by
 exact ⟨by decide,by decide,fun i=>short_list (f:=fun m:Mach=>m.changes) (by decide) (by decide) i,fun i=>⟨short_list (f:=fun m:Fnd=>m.new) (by decide) (by decide) i,short_list (f:=fun m:Fnd=>m.frm) (by decide) (by decide) i⟩⟩
set_option maxRecDepth 4000
theorem x_mix:mixesS exR=⟨3,57⟩:=by decide +kernel
theorem x_ok:openE exQ (whenIs exQ 1 0)=0/\openE exQ (isFound exQ 1)=0/\openE exQ true=0/\openE exR (isPlate exR 0)=0/\openE exR true=0/\openE exR (readIs exR 2 1)=0:=by decide +kernel
theorem t77:Triple Try.prog 77 s77:=by
 apply w77
 case o2 =>
  intro i hi
  have:i=0 ∨ i=1:=by simp [exR] at hi; omega
  rcases this with rfl | rfl
  ·exact congrArg (· :: [iv 3]) (sl_ext fun j=>by rcases j with _ | _ | j <;> rfl)
  ·exact congrArg (· :: [iv 5]) (sl_ext fun j=>by rcases j with _ | _ | j <;> rfl)
 case o3 =>
  intro i hi
  have:i=0 ∨ i=1 ∨ i=2:=by simp [exR] at hi; omega
  rcases this with rfl | rfl | rfl
  ·exact cell3 (sl_ext fun j=>by rcases j with _ | _ | j <;> rfl) (sl_ext fun j=>by rcases j with _ | _ | j <;> rfl)
  ·exact cell3 (sl_ext fun j=>by rcases j with _ | _ | j <;> rfl) (sl_ext fun j=>by rcases j with _ | _ | j <;> rfl)
  ·exact cell3 (sl_ext fun j=>by rcases j with _ | _ | j <;> rfl) (sl_ext fun j=>by rcases j with _ | j <;> rfl)
 case o4=>exact small_exR
 case o6 =>
  intro i hi h1
  have:i=0 ∨ i=2:=by simp [exR] at hi; omega
  rcases this with rfl | rfl <;> rfl
 case o8 =>
  intro i hi
  have:i=0 ∨ i=1:=by simp [fnd,exQ] at hi; omega
  rcases this with rfl | rfl <;> rfl
 all_goals (first | ((repeat intro _) <;> (try simp only [v0,v1,v2,v3,v4,v5,v6,v7,v8,v9,inI,fits,Go.Sh.small] at *) <;> first | (exact rfl) | omega | exact vz | (simp_all; done) | (simp_all; omega)) | skip)
theorem t77o (r q:Run):Triple Try.prog 77 (s77o r q):=⟨t77.1,fun h=>by obtain ⟨rfl,rfl⟩:=h; exact t77.2 trivial⟩
end Go.Ab
namespace Go.Sh
def priced (h:Hs) (i:Nat) (cost:Int):Hs:=⟨h.things.set i ⟨(thg h i).off,(thg h i).at_,cost,(thg h i).prints⟩,h.marks⟩
def exH:Hs:=⟨[⟨-1,0,20,0⟩,⟨0,5,9,0⟩,⟨1,10,3,1⟩,⟨1,20,3,1⟩,⟨0,25,8,0⟩,⟨4,30,2,1⟩],[⟨0,1,12⟩,⟨1,0,22⟩]⟩
def exG:Hs:=priced (priced exH 2 5) 3 5
end Go.Sh
namespace Go.Ab
open Go Go.RowKit Go.Proofs Go.Sh Go.En
def ou142 (g:Hs):OutSpec:={ args:=[vHs g],pre:=g.things.length<=65536/\g.marks.length<=65536,res := .agg [.vec 0,.vec 1],hout:=[(0,.vec 88 4 g.things.length (fun k=>cThg (thg g k))),(1,.vec 126 3 g.marks.length (fun k=>cMrk (g.marks.getD k default)))] }
def s142o (g:Hs) (id:Nat):CallSpec:=(ou142 g).at [(0,id),(1,id + 1)]
def s125 (g:Hs) (i cost:Int):CallSpec:={ args:=[vHs g,iv i,iv cost],res:=vHs (priced g i.toNat cost),pre:=(g.things.length<=65536/\g.marks.length<=65536)/\0<=i/\i < g.things.length }
def c125 (g:Hs) (i cost:Int) (id:Nat):CallSpec:=s142o g id
def s99:CallSpec:={ args:=[],res := .tup [vHs exH,vHs exG] }
def c99a:CallSpec:=s125 exH 2 5
def c99b:CallSpec:=s125 (priced exH 2 5) 3 5
def s99o (g k:Hs):CallSpec:={ args:=[],res := .tup [vHs g,vHs k],pre:=g=exH/\k=exG }
def sw60 (r q:Run) (g k:Hs):CallSpec:={ args:=[],res:=bv true,pre:=(r=exR/\q=exQ)/\g=exH/\k=exG }
def c60a (r q:Run) (g k:Hs):CallSpec:=s77o r q
def c60b (r q:Run) (g k:Hs):CallSpec:=s99o g k
def s60:CallSpec:={ args:=[],res:=bv true }
end Go.Ab
namespace Go.Ab
open Go Go.RowKit Go.Proofs Go.Sh Go.En
abbrev qo142_1 (g:Hs) (C:Prop):Prop:=(Hs.things g).length<=65536/\(Hs.marks g).length<=65536->C
theorem wo142 (g:Hs)
 (o0:qo142_1 g (0 + (Hs.things g).length<=65536))
 (o1:qo142_1 g (0 + (Hs.marks g).length<=65536))
 (o2:qo142_1 g (0 + (Hs.things g).length=(Hs.things g).length))
 (o3:qo142_1 g (0 + (Hs.marks g).length=(Hs.marks g).length))
  (l:List (Nat × Nat)) (hl:l.map (·.1)=(OutSpec.hout (ou142 g)).map (·.1)) (hnd:(l.map (·.2)).Nodup) :
  Triple Try.prog 142 (OutSpec.at (ou142 g) l):=by
 refine triple_out Try.func142 rfl Try.call142 T0_ok _ _ _ _ l rfl (Nat.le_of_ble_eq_true (by kernel_rfl)) hl hnd (by kernel_rfl) (by kernel_rfl) (by kernel_rfl) ?_
 intro hp C hC hE
 obtain ⟨P,w0,E0,av,hA⟩:=C
 subst hC
 refine swp_seq ?_
 refine sQ (kt:=[1,2]) (kh:=[0,8]) (q:=tn 2) (st':=ASt.mk [(1,.ptr 0 []),(2,.ptr 8 [])] [(0,.cells 80 (cHs g)),(8,.cells 80 [nilv,nilv])] 16) (tp 2) ?_
 refine swp_seq ?_
 refine sQ (kt:=[2]) (kh:=[8,40,72]) (q:=True/\True/\True/\0 + (Hs.things g).length<=65536/\True/\True/\True/\0 + (Hs.marks g).length<=65536/\tn 2) (st':=ASt.mk [(2,.ptr 8 [])] [(8,.cells 80 [.vec 40,.vec 72]),(40,.vec 88 4 (0 + (Hs.things g).length) fun (i:Nat)=>cThg (thg g i)),(72,.vec 126 3 (0 + (Hs.marks g).length) fun (i:Nat)=>cMrk ((Hs.marks g).getD i default))] 96) ⟨tv,tv,tv,(o0 hp),tv,tv,tv,(o1 hp),tp 2⟩ ?_
 refine swp_ret ?_
 exact ret_o (ASt.mk [(2,AV.ptr 90 [])] [(90,OB.cells 80 [AV.vec 0,AV.vec 1]),(0,OB.vec 88 4 (Hs.things g).length fun (k:Nat)=>cThg (thg g k)),(1,OB.vec 126 3 (Hs.marks g).length fun (k:Nat)=>cMrk ((Hs.marks g).getD k default))] 100) (eQ hE [] [(90,.same 8),(0,.same 40),(1,.same 72)] [] [] (((zP 8)/\True)/\((80=80/\(zE (some (Src.same 40))/\zE (some (Src.same 72))/\True)/\true=true)/\(88=88/\4=4/\0 + (Hs.things g).length=(Hs.things g).length /\ ∀ (i0:Nat),i0 < 0 + (Hs.things g).length->cThg (thg g i0)=cThg (thg g i0))/\(126=126/\3=3/\0 + (Hs.marks g).length=(Hs.marks g).length /\ ∀ (i2:Nat),i2 < 0 + (Hs.marks g).length->cMrk ((Hs.marks g).getD i2 default)=cMrk ((Hs.marks g).getD i2 default))/\True)/\T2) ⟨⟨⟨rfl,rfl⟩,tv⟩,⟨⟨rfl,⟨rfl,rfl,tv⟩,rfl⟩,⟨rfl,rfl,(o2 hp),(fun i0=>(fun h1=>rfl))⟩,⟨rfl,rfl,(o3 hp),(fun i2=>(fun h3=>rfl))⟩,tv⟩,rfl,rfl⟩) ((True/\True)/\zE (AV.agg [AV.vec 0,AV.vec 1])/\zE (some (OB.vec 88 4 (Hs.things g).length fun (k:Nat)=>cThg (thg g k)))/\zE (some (OB.vec 126 3 (Hs.marks g).length fun (k:Nat)=>cMrk ((Hs.marks g).getD k default)))/\True) (by kernel_rfl) ⟨⟨tv,tv⟩,rfl,rfl,rfl,tv⟩
theorem to142 (g:Hs) (l:List (Nat × Nat)) (hl:l.map (·.1) = [0,1]) (hnd:(l.map (·.2)).Nodup):Triple Try.prog 142 ((ou142 g).at l):=by
 apply wo142 (l:=l) (hl:=hl) (hnd:=hnd)
 all_goals (first | ((repeat intro _) <;> (try simp only [v0,v1,v2,v3,v4,v5,v6,v7,v8,v9,inI,fits,Go.Sh.small] at *) <;> first | (exact rfl) | omega | exact vz | (simp_all; done) | (simp_all; omega)) | skip)
theorem t142o (g:Hs) (id:Nat):Triple Try.prog 142 (s142o g id):=to142 g _ rfl (by simp)
abbrev q125_1 (g:Hs) (i:Int) (cost:Int) (C:Prop):Prop:=((Hs.things g).length<=65536/\(Hs.marks g).length<=65536)/\0<=i/\i < (↑((Hs.things g).length):Int)->C
theorem w125 (g:Hs) (i:Int) (cost:Int)
 (o0:q125_1 g i cost ((Hs.things g).length<=65536))
 (o1:q125_1 g i cost ((Hs.marks g).length<=65536))
 (o2:q125_1 g i cost (0<=i))
 (o3:q125_1 g i cost (i < (↑((Hs.things g).length):Int)))
 (o4:q125_1 g i cost (i.toNat < (Hs.things g).length))
 (o5:q125_1 g i cost (0<=i))
 (o6:q125_1 g i cost (i < (↑((Hs.things g).length):Int)))
 (o7:q125_1 g i cost (i.toNat < (Hs.things g).length))
 (o8:q125_1 g i cost ((Hs.things g).length=(Hs.things (priced g i.toNat cost)).length))
 (o9:q125_1 g i cost (∀ (i1:Nat),i1 < (Hs.things (priced g i.toNat cost)).length->Decidable.rec (fun (h:¬i1=i.toNat)=>cThg (thg g i1)) (fun (h:i1=i.toNat)=>[iv (Thg.off (thg g i.toNat)),iv (Thg.at_ (thg g i.toNat)),iv cost,iv (Thg.prints (thg g i.toNat))] ++ []) (instDecidableEqNat i1 i.toNat)=cThg (thg (priced g i.toNat cost) i1)))
 (o10:q125_1 g i cost ((Hs.marks g).length=(Hs.marks (priced g i.toNat cost)).length))
 (o11:q125_1 g i cost (∀ (i3:Nat),i3 < (Hs.marks (priced g i.toNat cost)).length->cMrk ((Hs.marks g).getD i3 default)=cMrk ((Hs.marks (priced g i.toNat cost)).getD i3 default))) :
  Triple Try.prog 125 (s125 g i cost):=by
 refine triple_of Try.func125 rfl Try.call125 T0_ok _ rfl rfl rfl rfl (Nat.le_of_ble_eq_true (by kernel_rfl)) (fun _ _ _ _ h=>h) ?_
 intro hp C hC _ hE
 obtain ⟨P,w0,E0,av,hA⟩:=C
 subst hC
 refine swp_seq ?_
 refine sQ (kt:=[1,2,3,6]) (kh:=[0,8]) (q:=tn 2) (st':=ASt.mk [(1,iv i),(2,iv cost),(3,.ptr 0 []),(6,.ptr 8 [])] [(0,.cells 80 (cHs g)),(8,.cells 80 [nilv,nilv])] 16) (tp 2) ?_
 refine swp_seq ?_
 refine sC (cs:=[(1,CallSpec.eq (c125 g i cost 24) [true])]) (kt:=[1,2,6,7]) (kh:=[8,32,24,25]) (q:=True/\((zE (AV.agg (cHs g))/\True)/\Triple Try.prog 142 (c125 g i cost 24)/\((Hs.things g).length<=65536/\(Hs.marks g).length<=65536)/\True /\ ∀ (i0:Env),True)/\tn 2) (st':=ASt.mk [(1,iv i),(2,iv cost),(6,.ptr 8 []),(7,.ptr 32 [])] [(8,.cells 80 [nilv,nilv]),(32,.cells 80 [.vec 24,.vec 25]),(24,.vec 88 4 (Hs.things g).length fun (k:Nat)=>cThg (thg g k)),(25,.vec 126 3 (Hs.marks g).length fun (k:Nat)=>cMrk ((Hs.marks g).getD k default))] 48) ⟨tv,⟨⟨rfl,tv⟩,(t142o (g) (24)),⟨(o0 hp),(o1 hp)⟩,tv,(fun i0=>tv)⟩,tp 2⟩ ?_
 refine swp_seq ?_
 refine sQ (kt:=[1,2,6,7,8]) (kh:=[8,32,88,24,25]) (q:=True/\True/\True/\(0<=i/\i < (↑((Hs.things g).length):Int))/\(i.toNat < (Hs.things g).length/\True)/\tn 2) (st':=ASt.mk [(1,iv i),(2,iv cost),(6,.ptr 8 []),(7,.ptr 32 []),(8,.ptr 88 [])] [(8,.cells 80 [nilv,nilv]),(32,.cells 80 [.vec 24,.vec 25]),(88,.cells 88 (cThg (thg g i.toNat))),(24,.vec 88 4 (Hs.things g).length fun (k:Nat)=>cThg (thg g k)),(25,.vec 126 3 (Hs.marks g).length fun (k:Nat)=>cMrk ((Hs.marks g).getD k default))] 104) ⟨tv,tv,tv,⟨(o2 hp),(o3 hp)⟩,⟨(o4 hp),tv⟩,tp 2⟩ ?_
 refine swp_seq ?_
 refine sQ (kt:=[1,6,7,8]) (kh:=[8,32,88,24,25]) (q:=tn 3) (st':=ASt.mk [(1,iv i),(6,.ptr 8 []),(7,.ptr 32 []),(8,.ptr 88 [])] [(8,.cells 80 [nilv,nilv]),(32,.cells 80 [.vec 24,.vec 25]),(88,.cells 88 [iv (Thg.off (thg g i.toNat)),iv (Thg.at_ (thg g i.toNat)),iv cost,iv (Thg.prints (thg g i.toNat))]),(24,.vec 88 4 (Hs.things g).length fun (k:Nat)=>cThg (thg g k)),(25,.vec 126 3 (Hs.marks g).length fun (k:Nat)=>cMrk ((Hs.marks g).getD k default))] 128) (tp 3) ?_
 refine swp_seq ?_
 refine sQ (kt:=[6,7]) (kh:=[8,32,24,25]) (q:=True/\True/\True/\True/\(0<=i/\i < (↑((Hs.things g).length):Int))/\(i.toNat < (Hs.things g).length/\True)/\True) (st':=ASt.mk [(6,.ptr 8 []),(7,.ptr 32 [])] [(8,.cells 80 [nilv,nilv]),(32,.cells 80 [.vec 24,.vec 25]),(24,.vec 88 4 (Hs.things g).length fun (j:Nat)=>Decidable.rec (fun (h:¬j=i.toNat)=>cThg (thg g j)) (fun (h:j=i.toNat)=>[iv (Thg.off (thg g i.toNat)),iv (Thg.at_ (thg g i.toNat)),iv cost,iv (Thg.prints (thg g i.toNat))] ++ []) (instDecidableEqNat j i.toNat)),(25,.vec 126 3 (Hs.marks g).length fun (k:Nat)=>cMrk ((Hs.marks g).getD k default))] 176) ⟨tv,tv,tv,tv,⟨(o5 hp),(o6 hp)⟩,⟨(o7 hp),tv⟩,tv⟩ ?_
 refine swp_seq ?_
 refine sQ (kt:=[6]) (kh:=[8,24,25]) (q:=tn 2) (st':=ASt.mk [(6,.ptr 8 [])] [(8,.cells 80 [.vec 24,.vec 25]),(24,.vec 88 4 (Hs.things g).length fun (j:Nat)=>Decidable.rec (fun (h:¬j=i.toNat)=>cThg (thg g j)) (fun (h:j=i.toNat)=>[iv (Thg.off (thg g i.toNat)),iv (Thg.at_ (thg g i.toNat)),iv cost,iv (Thg.prints (thg g i.toNat))] ++ []) (instDecidableEqNat j i.toNat)),(25,.vec 126 3 (Hs.marks g).length fun (k:Nat)=>cMrk ((Hs.marks g).getD k default))] 192) (tp 2) ?_
 refine swp_ret ?_
 exact rQ [24,25] ((True/\True)/\((4=4/\(Hs.things g).length=(Hs.things (priced g i.toNat cost)).length /\ ∀ (i1:Nat),i1 < (Hs.things (priced g i.toNat cost)).length->Decidable.rec (fun (h:¬i1=i.toNat)=>cThg (thg g i1)) (fun (h:i1=i.toNat)=>[iv (Thg.off (thg g i.toNat)),iv (Thg.at_ (thg g i.toNat)),iv cost,iv (Thg.prints (thg g i.toNat))] ++ []) (instDecidableEqNat i1 i.toNat)=cThg (thg (priced g i.toNat cost) i1))/\(3=3/\(Hs.marks g).length=(Hs.marks (priced g i.toNat cost)).length /\ ∀ (i3:Nat),i3 < (Hs.marks (priced g i.toNat cost)).length->cMrk ((Hs.marks g).getD i3 default)=cMrk ((Hs.marks (priced g i.toNat cost)).getD i3 default))/\True)/\T3) ⟨⟨tv,tv⟩,⟨⟨rfl,(o8 hp),(fun i1=>(fun h2=>(o9 hp i1 h2)))⟩,⟨rfl,(o10 hp),(fun i3=>(fun h4=>(o11 hp i3 h4)))⟩,tv⟩,rfl,rfl,rfl⟩
theorem thg_priced {g:Hs} {i:Nat} (hi:i < g.things.length) (cost:Int) (j:Nat):thg (priced g i cost) j=if j=i then ⟨(thg g i).off,(thg g i).at_,cost,(thg g i).prints⟩ else thg g j:=by
 show (g.things.set i _).getD j default=_
 rw [List.getD_eq_getElem?_getD,List.getElem?_set]
 by_cases e:i=j
 ·subst e; rw [if_pos rfl,if_pos hi,if_pos rfl]; rfl
 ·rw [if_neg e,if_neg (fun h=>e h.symm),thg,List.getD_eq_getElem?_getD]
theorem t125 (g:Hs) (i cost:Int):Triple Try.prog 125 (s125 g i cost):=by
 apply w125
 case o8=>intro _; exact (List.length_set).symm
 case o9=>intro hp j hj; exact rec7 (fun h=>by rw [thg_priced (by omega),if_neg h]) (fun h=>by rw [thg_priced (by omega),if_pos h]; rfl)
 all_goals (first | ((repeat intro _) <;> (try simp only [v0,v1,v2,v3,v4,v5,v6,v7,v8,v9,inI,fits,Go.Sh.small] at *) <;> first | (exact rfl) | omega | exact vz | (simp_all; done) | (simp_all; omega)) | skip)
theorem w99 
 (o0:∀ (i0:Nat),i0 < (Hs.things exH).length->List.getD [[iv (-1),iv 0,iv 20,iv 0],[iv 0,iv 5,iv 9,iv 0],[iv 1,iv 10,iv 3,iv 1],[iv 1,iv 20,iv 3,iv 1],[iv 0,iv 25,iv 8,iv 0],[iv 4,iv 30,iv 2,iv 1]] i0 (TI.za ti88)=cThg (thg exH i0))
 (o1:∀ (i2:Nat),i2 < (Hs.marks exH).length->List.getD [[iv 0,iv 1,iv 12],[iv 1,iv 0,iv 22]] i2 (TI.za ti126)=cMrk ((Hs.marks exH).getD i2 default))
 (o2:∀ (i10:Nat),i10 < (Hs.things exG).length->cThg (thg (priced (priced exH 2 5) 3 5) i10)=cThg (thg exG i10))
 (o3:∀ (i12:Nat),i12 < (Hs.marks exG).length->cMrk ((Hs.marks (priced (priced exH 2 5) 3 5)).getD i12 default)=cMrk ((Hs.marks exG).getD i12 default)) :
  Triple Try.prog 99 (s99):=by
 refine triple_of Try.func99 rfl Try.call99 T0_ok _ rfl rfl rfl rfl (Nat.le_of_ble_eq_true (by kernel_rfl)) (fun _ _ _ _ h=>h) ?_
 intro _ C hC _ hE
 obtain ⟨P,w0,E0,av,hA⟩:=C
 subst hC
 refine swp_seq ?_
 refine sQ (kt:=[0,1]) (kh:=[0,8]) (q:=tn 2) (st':=ASt.mk [(0,.ptr 0 []),(1,.ptr 8 [])] [(0,.cells 80 [nilv,nilv]),(8,.cells 80 [nilv,nilv])] 16) (tp 2) ?_
 refine swp_seq ?_
 refine sQ (kt:=[0,1]) (kh:=[0,8,64,88]) (q:=tn 12) (st':=ASt.mk [(0,.ptr 0 []),(1,.ptr 8 [])] [(0,.cells 80 [.vec 64,.vec 88]),(8,.cells 80 [nilv,nilv]),(64,.vec 88 4 6 fun (j:Nat)=>List.getD [[iv (-1),iv 0,iv 20,iv 0],[iv 0,iv 5,iv 9,iv 0],[iv 1,iv 10,iv 3,iv 1],[iv 1,iv 20,iv 3,iv 1],[iv 0,iv 25,iv 8,iv 0],[iv 4,iv 30,iv 2,iv 1]] j (TI.za ti88)),(88,.vec 126 3 2 fun (j:Nat)=>List.getD [[iv 0,iv 1,iv 12],[iv 1,iv 0,iv 22]] j (TI.za ti126))] 112) (tp 12) ?_
 refine swp_seq ?_
 refine swp_ent (eQ (st2:=ASt.mk [(0,AV.ptr 0 []),(1,AV.ptr 8 [])] [(0,OB.cells 80 (cHs exH)),(8,OB.cells 80 [nilv,nilv])] 112) hE [64,88] [(0,.same 0),(8,.same 8)] [] [8] (((zP 0)/\(zP 8)/\True)/\((80=80/\((4=4/\6=(Hs.things exH).length /\ ∀ (i0:Nat),i0 < (Hs.things exH).length->List.getD [[iv (-1),iv 0,iv 20,iv 0],[iv 0,iv 5,iv 9,iv 0],[iv 1,iv 10,iv 3,iv 1],[iv 1,iv 20,iv 3,iv 1],[iv 0,iv 25,iv 8,iv 0],[iv 4,iv 30,iv 2,iv 1]] i0 (TI.za ti88)=cThg (thg exH i0))/\(3=3/\2=(Hs.marks exH).length /\ ∀ (i2:Nat),i2 < (Hs.marks exH).length->List.getD [[iv 0,iv 1,iv 12],[iv 1,iv 0,iv 22]] i2 (TI.za ti126)=cMrk ((Hs.marks exH).getD i2 default))/\True)/\true=true)/\(zT (OB.cells 80 [nilv,nilv]))/\True)/\T2) ⟨⟨⟨rfl,rfl⟩,⟨rfl,rfl⟩,tv⟩,⟨⟨rfl,⟨⟨rfl,(by decide),(fun i0=>(fun h1=>(o0 i0 h1)))⟩,⟨rfl,(by decide),(fun i2=>(fun h3=>(o1 i2 h3)))⟩,tv⟩,rfl⟩,⟨rfl,rfl⟩,tv⟩,rfl,rfl⟩) ?_
 refine sC (cs:=[(2,CallSpec.eq c99a [true,true,true]),(3,CallSpec.eq c99b [true,true,true])]) (kt:=[0,1]) (kh:=[0,8]) (q:=True/\True/\((zE (AV.agg (cHs exH))/\iv 2=iv 2/\iv 5=iv 5/\True)/\Triple Try.prog 125 c99a/\(((Hs.things exH).length<=65536/\(Hs.marks exH).length<=65536)/\Int.ofNat 0<=Int.ofNat 2/\2 < (↑((Hs.things exH).length):Int))/\True /\ ∀ (i4:Env),True)/\((zE (AV.agg (cHs (priced exH 2 5)))/\iv 3=iv 3/\iv 5=iv 5/\True)/\Triple Try.prog 125 c99b/\(((Hs.things (priced exH 2 5)).length<=65536/\(Hs.marks (priced exH 2 5)).length<=65536)/\Int.ofNat 0<=Int.ofNat 3/\3 < (↑((Hs.things (priced exH 2 5)).length):Int))/\True /\ ∀ (i5:Env),True)/\tn 2) (st':=ASt.mk [(0,.ptr 0 []),(1,.ptr 8 [])] [(0,.cells 80 (cHs exH)),(8,.cells 80 (cHs (priced (priced exH 2 5) 3 5)))] 160) ⟨tv,tv,⟨⟨rfl,rfl,rfl,tv⟩,(t125 _ _ _),⟨⟨(by decide),(by decide)⟩,(by decide),(by decide)⟩,tv,(fun i4=>tv)⟩,⟨⟨rfl,rfl,rfl,tv⟩,(t125 _ _ _),⟨⟨(by decide),(by decide)⟩,(by decide),(by decide)⟩,tv,(fun i5=>tv)⟩,tp 2⟩ ?_
 refine swp_ret ?_
 exact rQ [] ((True/\True/\True)/\(((4=4/\(Hs.things exH).length=(Hs.things exH).length /\ ∀ (i6:Nat),i6 < (Hs.things exH).length->cThg (thg exH i6)=cThg (thg exH i6))/\(3=3/\(Hs.marks exH).length=(Hs.marks exH).length /\ ∀ (i8:Nat),i8 < (Hs.marks exH).length->cMrk ((Hs.marks exH).getD i8 default)=cMrk ((Hs.marks exH).getD i8 default))/\True)/\((4=4/\(Hs.things (priced (priced exH 2 5) 3 5)).length=(Hs.things exG).length /\ ∀ (i10:Nat),i10 < (Hs.things exG).length->cThg (thg (priced (priced exH 2 5) 3 5) i10)=cThg (thg exG i10))/\(3=3/\(Hs.marks (priced (priced exH 2 5) 3 5)).length=(Hs.marks exG).length /\ ∀ (i12:Nat),i12 < (Hs.marks exG).length->cMrk ((Hs.marks (priced (priced exH 2 5) 3 5)).getD i12 default)=cMrk ((Hs.marks exG).getD i12 default))/\True)/\True)/\T3) ⟨⟨tv,tv,tv⟩,⟨⟨⟨rfl,rfl,(fun i6=>(fun h7=>rfl))⟩,⟨rfl,rfl,(fun i8=>(fun h9=>rfl))⟩,tv⟩,⟨⟨rfl,(by decide),(fun i10=>(fun h11=>(o2 i10 h11)))⟩,⟨rfl,(by decide),(fun i12=>(fun h13=>(o3 i12 h13)))⟩,tv⟩,tv⟩,rfl,rfl,rfl⟩
theorem t99:Triple Try.prog 99 s99:=by
 apply w99
 case o0 =>
  intro i hi
  have:i=0 ∨ i=1 ∨ i=2 ∨ i=3 ∨ i=4 ∨ i=5:=by simp [exH] at hi; omega
  rcases this with rfl | rfl | rfl | rfl | rfl | rfl <;> rfl
 case o1 =>
  intro i hi
  have:i=0 ∨ i=1:=by simp [exH] at hi; omega
  rcases this with rfl | rfl <;> rfl
 all_goals (first | ((repeat intro _) <;> (try simp only [v0,v1,v2,v3,v4,v5,v6,v7,v8,v9,inI,fits,Go.Sh.small] at *) <;> first | (exact rfl) | omega | exact vz | (simp_all; done) | (simp_all; omega)) | skip)
theorem t99o (g k:Hs):Triple Try.prog 99 (s99o g k):=⟨t99.1,fun h=>by obtain ⟨rfl,rfl⟩:=h; exact t99.2 trivial⟩
abbrev q60_1 (r:Run) (q:Run) (g:Hs) (k:Hs) (C:Prop):Prop:=(r=exR/\q=exQ)/\g=exH/\k=exG->C
theorem w60 (r:Run) (q:Run) (g:Hs) (k:Hs)
 (o0:q60_1 r q g k (r=exR))
 (o1:q60_1 r q g k (q=exQ))
 (o2:q60_1 r q g k (g=exH))
 (o3:q60_1 r q g k (k=exG))
 (o4:q60_1 r q g k (fits r))
 (o5:q60_1 r q g k (okH g=true))
 (o6:q60_1 r q g k ((bif bif bif decide (openE r true=0) then decide (timeE g 0=0) else false then decide ((mixesS r).lo=3) && (decide ((mixesS r).hi=57) && true) else false then decide ((timeV g 0).lo=20) && (decide ((timeV g 0).hi=99) && true) else false)=true)) :
  Triple Try.prog 60 (sw60 r q g k):=by
 refine triple_of Try.func60 rfl Try.call60 T0_ok _ rfl rfl rfl rfl (Nat.le_of_ble_eq_true (by kernel_rfl)) (fun _ _ _ _ h=>h) ?_
 intro hp C hC _ hE
 obtain ⟨P,w0,E0,av,hA⟩:=C
 subst hC
 refine swp_seq ?_
 refine sQ (kt:=[]) (kh:=[]) (q:=True/\True) (st':=ASt.mk [] [] 8) ⟨tv,tv⟩ ?_
 refine swp_seq ?_
 refine sC (cs:=[(0,CallSpec.eq (c60a r q g k) [])]) (kt:=[1]) (kh:=[40]) (q:=(True/\Triple Try.prog 77 (c60a r q g k)/\(r=exR/\q=exQ)/\True /\ ∀ (i0:Env),True)/\tn 7) (st':=ASt.mk [(1,.ptr 40 [])] [(40,.cells 25 (cRun r))] 72) ⟨⟨tv,(t77o (r) (q)),⟨(o0 hp),(o1 hp)⟩,tv,(fun i0=>tv)⟩,tp 7⟩ ?_
 refine swp_seq ?_
 refine sC (cs:=[(0,CallSpec.eq (c60b r q g k) [])]) (kt:=[1,3]) (kh:=[40,104]) (q:=(True/\Triple Try.prog 99 (c60b r q g k)/\(g=exH/\k=exG)/\True /\ ∀ (i1:Env),True)/\tn 7) (st':=ASt.mk [(1,.ptr 40 []),(3,.ptr 104 [])] [(40,.cells 25 (cRun r)),(104,.cells 80 (cHs g))] 136) ⟨⟨tv,(t99o (g) (k)),⟨(o2 hp),(o3 hp)⟩,tv,(fun i1=>tv)⟩,tp 7⟩ ?_
 refine swp_seq ?_
 refine sC (cs:=[(1,CallSpec.eq (s27 r) [true])]) (kt:=[3,5,6]) (kh:=[104,176]) (q:=True/\((zE (AV.agg (cRun r))/\True)/\Triple Try.prog 27 (s27 r)/\fits r/\True /\ ∀ (i2:Env),True)/\tn 6) (st':=ASt.mk [(3,.ptr 104 []),(5,.ptr 176 []),(6,iv (openE r true))] [(104,.cells 80 (cHs g)),(176,.cells 37 (cSpan (mixesS r)))] 200) ⟨tv,⟨⟨rfl,tv⟩,(t27 (r)),(o4 hp),tv,(fun i2=>tv)⟩,tp 6⟩ ?_
 refine swp_seq ?_
 refine sC (cs:=[(1,CallSpec.eq (s100 g 0) [true,true])]) (kt:=[5,6,7,8]) (kh:=[176,240]) (q:=True/\((zE (AV.agg (cHs g))/\iv 0=iv 0/\True)/\Triple Try.prog 100 (s100 g 0)/\(okH g=true/\within 0 0 2=true)/\True /\ ∀ (i3:Env),True)/\tn 6) (st':=ASt.mk [(5,.ptr 176 []),(6,iv (openE r true)),(7,.ptr 240 []),(8,iv (timeE g 0))] [(176,.cells 37 (cSpan (mixesS r))),(240,.cells 37 (cSpan (timeV g 0)))] 264) ⟨tv,⟨⟨rfl,rfl,tv⟩,(t100 (g) (0)),⟨(o5 hp),(by decide)⟩,tv,(fun i3=>tv)⟩,tp 6⟩ ?_
 refine swp_seq ?_
 refine sQ (kt:=[0]) (kh:=[]) (q:=True/\True/\True/\(decide (openE r true=0)=true->(True/\True)/\True)/\(decide (openE r true=0)=true->((decide (openE r true=0)=true->decide (openE r true=0)=true)/\True/\True)/\True)/\((decide (openE r true=0)=true->decide (openE r true=0)=true)/\(decide (openE r true=0)=false->True))/\True/\((bif decide (openE r true=0) then decide (timeE g 0=0) else false)=true->(True/\True)/\True)/\((bif decide (openE r true=0) then decide (timeE g 0=0) else false)=true->(True/\True/\True)/\True)/\((bif decide (openE r true=0) then decide (timeE g 0=0) else false)=true->(((bif decide (openE r true=0) then decide (timeE g 0=0) else false)=true->(bif decide (openE r true=0) then decide (timeE g 0=0) else false)=true)/\((bif decide (openE r true=0) then decide (timeE g 0=0) else false)=true->(bif decide (openE r true=0) then decide (timeE g 0=0) else false)=true)/\True)/\True)/\(((bif decide (openE r true=0) then decide (timeE g 0=0) else false)=true->(bif decide (openE r true=0) then decide (timeE g 0=0) else false)=true)/\((bif decide (openE r true=0) then decide (timeE g 0=0) else false)=false->True))/\True/\((bif bif decide (openE r true=0) then decide (timeE g 0=0) else false then decide ((mixesS r).lo=3) && (decide ((mixesS r).hi=57) && true) else false)=true->(True/\True)/\True)/\((bif bif decide (openE r true=0) then decide (timeE g 0=0) else false then decide ((mixesS r).lo=3) && (decide ((mixesS r).hi=57) && true) else false)=true->(True/\True/\True)/\True)/\((bif bif decide (openE r true=0) then decide (timeE g 0=0) else false then decide ((mixesS r).lo=3) && (decide ((mixesS r).hi=57) && true) else false)=true->(((bif bif decide (openE r true=0) then decide (timeE g 0=0) else false then decide ((mixesS r).lo=3) && (decide ((mixesS r).hi=57) && true) else false)=true->(bif bif decide (openE r true=0) then decide (timeE g 0=0) else false then decide ((mixesS r).lo=3) && (decide ((mixesS r).hi=57) && true) else false)=true)/\((bif bif decide (openE r true=0) then decide (timeE g 0=0) else false then decide ((mixesS r).lo=3) && (decide ((mixesS r).hi=57) && true) else false)=true->(bif bif decide (openE r true=0) then decide (timeE g 0=0) else false then decide ((mixesS r).lo=3) && (decide ((mixesS r).hi=57) && true) else false)=true)/\True)/\True)/\(((bif bif decide (openE r true=0) then decide (timeE g 0=0) else false then decide ((mixesS r).lo=3) && (decide ((mixesS r).hi=57) && true) else false)=true->(bif bif decide (openE r true=0) then decide (timeE g 0=0) else false then decide ((mixesS r).lo=3) && (decide ((mixesS r).hi=57) && true) else false)=true)/\((bif bif decide (openE r true=0) then decide (timeE g 0=0) else false then decide ((mixesS r).lo=3) && (decide ((mixesS r).hi=57) && true) else false)=false->True))/\True/\True) (st':=ASt.mk [(0,bv (bif bif bif decide (openE r true=0) then decide (timeE g 0=0) else false then decide ((mixesS r).lo=3) && (decide ((mixesS r).hi=57) && true) else false then decide ((timeV g 0).lo=20) && (decide ((timeV g 0).hi=99) && true) else false))] [] 400) ⟨tv,tv,tv,(fun h4=>⟨⟨tv,tv⟩,tv⟩),(fun h5=>⟨⟨(fun h6=>h5),tv,tv⟩,tv⟩),⟨(fun h7=>h7),(fun h8=>tv)⟩,tv,(fun h9=>⟨⟨tv,tv⟩,tv⟩),(fun h10=>⟨⟨tv,tv,tv⟩,tv⟩),(fun h11=>⟨⟨(fun h12=>h11),(fun h13=>h11),tv⟩,tv⟩),⟨(fun h14=>h14),(fun h15=>tv)⟩,tv,(fun h16=>⟨⟨tv,tv⟩,tv⟩),(fun h17=>⟨⟨tv,tv,tv⟩,tv⟩),(fun h18=>⟨⟨(fun h19=>h18),(fun h20=>h18),tv⟩,tv⟩),⟨(fun h21=>h21),(fun h22=>tv)⟩,tv,tv⟩ ?_
 refine swp_ret ?_
 exact rQ [] ((True/\True)/\(zN (bv (bif bif bif decide (openE r true=0) then decide (timeE g 0=0) else false then decide ((mixesS r).lo=3) && (decide ((mixesS r).hi=57) && true) else false then decide ((timeV g 0).lo=20) && (decide ((timeV g 0).hi=99) && true) else false)) (bv true))/\T3) ⟨⟨tv,tv⟩,⟨(congrArg bv (o6 hp)),rfl⟩,rfl,rfl,rfl⟩
theorem x_okH:okH exH=true:=by decide +kernel
theorem x_time:timeV exH 0=⟨20,99⟩/\timeE exH 0=0:=by decide +kernel
theorem tw60 (r q:Run) (g k:Hs):Triple Try.prog 60 (sw60 r q g k):=by
 apply w60
 case o4=>rintro ⟨⟨rfl,rfl⟩,rfl,rfl⟩; exact small_fits small_exR
 case o5=>rintro ⟨⟨rfl,rfl⟩,rfl,rfl⟩; exact x_okH
 case o6 =>
  rintro ⟨⟨rfl,rfl⟩,rfl,rfl⟩
  obtain ⟨h1,h2⟩:=x_time
  rw [x_ok.2.2.2.2.1,x_mix,h1,h2]
  decide
 all_goals (first | ((repeat intro _) <;> (try simp only [v0,v1,v2,v3,v4,v5,v6,v7,v8,v9,inI,fits,Go.Sh.small] at *) <;> first | (exact rfl) | omega | exact vz | (simp_all; done) | (simp_all; omega)) | skip)
theorem t60:Triple Try.prog 60 s60:=⟨(tw60 exR exQ exH exG).1,fun _=>(tw60 exR exQ exH exG).2 ⟨⟨rfl,rfl⟩,rfl,rfl⟩⟩
end Go.Ab
namespace Go.Sh
def chFrom (r:Run) (first:List Int):Nat->List (List Int)
 | 0=>[first]
 | k + 1=>(chFrom r first k).flatMap fun l=>(fnd r l.length).frm.map fun m=>l ++ [m]
theorem chFrom_head (r:Run):∀ k first,chFrom r first (k + 1)=(fnd r first.length).frm.flatMap fun m=>chFrom r (first ++ [m]) k:=by
 intro k
 induction k with
 | zero =>
  intro first
  simp only [chFrom,List.flatMap_cons,List.flatMap_nil,List.append_nil]
  generalize (fnd r first.length).frm=l
  induction l with
  | nil=>rfl
  | cons x l ih=>rw [List.map_cons,List.flatMap_cons,ih]; rfl
 | succ k ih =>
  intro first
  rw [chFrom,ih,List.flatMap_assoc]
  rfl
theorem choicesN_from (r:Run):∀ k first,choicesN r k first=chFrom r first k:=by
 intro k
 induction k with
 | zero=>intro first; rfl
 | succ k ih =>
  intro first
  rw [choicesN,chFrom_head]
  congr 1
  funext m
  exact ih _
theorem choices_from (r:Run):choices r []=chFrom r [] r.found.length:=by
 rw [choices,choicesN_from]; rfl
theorem spanTo_snoc (r:Run) (l:List Int) (x:Int) (j q:Nat):∀ n,n<=l.length->spanTo r (l ++ [x]) j q n=spanTo r l j q n:=by
 intro n
 induction n with
 | zero=>intro _; rfl
 | succ n ih =>
  intro h
  rw [spanTo_succ,spanTo_succ,ih (by omega)]
  have e:(l ++ [x]).getD n 0=l.getD n 0:=by rw [Go.Ab.getD_append,if_pos (by omega)]
  unfold spanStep
  rw [e]
theorem spanOf_snoc (r:Run) (l:List Int) (x:Int) (j q:Nat):spanOf r (l ++ [x]) j q=if x=(j:Int) then seeOne (fnd r l.length) q (spanOf r l j q) else spanOf r l j q:=by
 unfold spanOf
 rw [List.length_append,List.length_singleton,spanTo_succ,spanTo_snoc r l x j q _ (Nat.le_refl _)]
 unfold spanStep
 rw [Go.Ab.getD_append,if_neg (Nat.lt_irrefl _),Nat.sub_self]
 show (if x=(j:Int) then _ else _)=_
 split
 ·unfold seeOne
  by_cases h0:(fnd r l.length).new.getD q 0=0
  ·rw [if_pos h0,if_neg (by rw [h0]; decide),if_pos h0]
  ·rw [if_neg h0]
   split
   ·rfl
   ·rfl
 ·rfl
theorem seeOne_narrow (c:Fnd) (q:Nat) (s:Span):s.lo<=(seeOne c q s).lo/\(seeOne c q s).hi<=s.hi:=by
 unfold seeOne
 split
 ·exact ⟨Int.le_max_left _ _,Int.le_refl _⟩
 ·split
  ·exact ⟨Int.le_refl _,Int.min_le_left _ _⟩
  ·exact ⟨Int.le_refl _,Int.le_refl _⟩
theorem canBe_iff {r:Run} (ok:Ok r) {l:List Int}:canBe r l=true ↔ ∀ m,m < r.machines.length -> ∀ p:Nat,(p:Int) < r.plates->(spanOf r l m p).lo<=(spanOf r l m p).hi:=by
 unfold canBe canBeM canBeAt
 simp only [List.all_eq_true,List.mem_range,decide_eq_true_eq]
 have:=ok.plates
 constructor
 ·intro h m hm p hp; exact h m hm p (by omega)
 ·intro h m hm p hp; exact h m hm p (by omega)
theorem canBe_snoc {r:Run} (ok:Ok r) {l:List Int} {x:Int} (h:canBe r (l ++ [x])=true):canBe r l=true:=by
 rw [canBe_iff ok] at h ⊢
 intro m hm p hp
 have h1:=h m hm p hp
 rw [spanOf_snoc] at h1
 split at h1
 ·have:=seeOne_narrow (fnd r l.length) p (spanOf r l m p); omega
 ·exact h1
theorem seeN_spec (c:Fnd) (m:Nat):∀ k p (f:Nat->Nat->Span),((seeN c m k p f).1=true ↔ ∀ q,p<=q->q < p + k->(seeOne c q (f m q)).lo<=(seeOne c q (f m q)).hi) ∧
  ((seeN c m k p f).1=true -> ∀ j q,(seeN c m k p f).2 j q=if j=m/\p<=q/\q < p + k then seeOne c q (f j q) else f j q):=by
 intro k
 induction k with
 | zero =>
  intro p f
  refine ⟨⟨fun _ q h1 h2=>by omega,fun _=>rfl⟩,fun _ j q => ?_⟩
  rw [if_neg (by omega)]; rfl
 | succ k ih =>
  intro p f
  by_cases hs:(seeOne c p (f m p)).lo > (seeOne c p (f m p)).hi
  ·rw [seeN_stop hs]
   refine ⟨⟨fun h=>(by cases h),fun h => ?_⟩,fun h=>(by cases h)⟩
   have:=h p (Nat.le_refl _) (by omega)
   omega
  ·rw [seeN_go hs]
   obtain ⟨h1,h2⟩:=ih (p + 1) (upd2 f m p (seeOne c p (f m p)))
   have hq:∀ q,p + 1<=q->upd2 f m p (seeOne c p (f m p)) m q=f m q:=by
    intro q hq
    unfold upd2
    rw [if_pos rfl,if_neg (by omega)]
   refine ⟨⟨fun h q a b => ?_,fun h=>h1.2 fun q a b => ?_⟩,fun h j q => ?_⟩
   ·by_cases e:q=p
    ·subst e; omega
    ·have:=h1.1 h q (by omega) (by omega)
     rw [hq q (by omega)] at this
     exact this
   ·rw [hq q a]
    exact h q (by omega) (by omega)
   ·rw [h2 h j q]
    by_cases hj:j=m
    ·subst hj
     by_cases e:q=p
     ·subst e
      rw [if_neg (by omega),if_pos ⟨rfl,by omega,by omega⟩,upd2_at]
     ·by_cases hr:p + 1<=q/\q < p + 1 + k
      ·rw [if_pos ⟨rfl,hr⟩,if_pos ⟨rfl,by omega,by omega⟩,hq q hr.1]
      ·rw [if_neg (fun h=>hr h.2),if_neg (by omega)]
       unfold upd2
       rw [if_pos rfl,if_neg e]
    ·rw [if_neg (fun h=>hj h.1),if_neg (fun h=>hj h.1)]
     unfold upd2
     rw [if_neg hj]
theorem filter_flatMap {α β:Type} (L:List α) (g:α->List β) (P:α->Bool) (Q:β->Bool) (h:∀ l,l ∈ L->P l=false -> ∀ x,x ∈ g l->Q x=false):(L.flatMap g).filter Q=(L.filter P).flatMap fun l=>(g l).filter Q:=by
 induction L with
 | nil=>rfl
 | cons a L ih =>
  rw [List.flatMap_cons,List.filter_append,ih (fun l hl=>h l (List.mem_cons_of_mem _ hl))]
  cases hp:P a with
  | true=>rw [List.filter_cons_of_pos hp,List.flatMap_cons]
  | false =>
   rw [List.filter_cons_of_neg (by rw [hp]; exact Bool.false_ne_true)]
   have:(g a).filter Q = []:=by
    rw [List.filter_eq_nil_iff]
    intro x hx
    rw [h a (List.mem_cons_self ..) hp x hx]; exact Bool.false_ne_true
   rw [this]; rfl
def WayOK (r:Run) (w:WayS):Prop:=canBe r w.frm=true /\ ∀ m,m < r.machines.length -> ∀ p:Nat,(p:Int) < r.plates->w.whn m p=spanOf r w.frm m p
theorem one_ok {r:Run} (ok:Ok r) {n:Nat} (hn:n < r.found.length) {w:WayS} (hw:WayOK r w) (hl:w.frm.length=n) {x:Int} (hx:0<=x/\x < r.machines.length) :
  (see (fnd r n) x.toNat w.whn).1=canBe r (w.frm ++ [x])/\((see (fnd r n) x.toNat w.whn).1=true->WayOK r ⟨w.frm ++ [x],(see (fnd r n) x.toNat w.whn).2⟩):=by
 obtain ⟨h1,h2⟩:=seeN_spec (fnd r n) x.toNat (fnd r n).new.length 0 w.whn
 have hf:=ok.fnd n hn
 have hp:=ok.plates
 have key:∀ j,j < r.machines.length -> ∀ q:Nat,(q:Int) < r.plates->spanOf r (w.frm ++ [x]) j q=if j=x.toNat then seeOne (fnd r n) q (w.whn j q) else w.whn j q:=by
  intro j hj q hq
  rw [spanOf_snoc,hl,hw.2 j hj q hq]
  by_cases e:j=x.toNat
  ·rw [if_pos e,if_pos (by omega)]
  ·rw [if_neg e,if_neg (by omega)]
 have hc:=(canBe_iff ok).1 hw.1
 have hiff:(see (fnd r n) x.toNat w.whn).1=true ↔ canBe r (w.frm ++ [x])=true:=by
  unfold see
  rw [h1,canBe_iff ok]
  constructor
  ·intro h m hm p hpp
   rw [key m hm p hpp]
   split
   ·rename_i e
    subst e
    exact h p (Nat.zero_le _) (by omega)
   ·rw [hw.2 m hm p hpp]; exact hc m hm p hpp
  ·intro h q _ hq
   have:=h x.toNat (by omega) q (by omega)
   rw [key _ (by omega) q (by omega),if_pos rfl] at this
   exact this
 refine ⟨?_,fun h=>⟨hiff.1 h,fun m hm p hpp => ?_⟩⟩
 ·cases e:canBe r (w.frm ++ [x]) with
  | true=>exact hiff.2 e
  | false =>
   cases e2:(see (fnd r n) x.toNat w.whn).1 with
   | true=>rw [hiff.1 e2] at e; cases e
   | false=>rfl
 ·show (see (fnd r n) x.toNat w.whn).2 m p=spanOf r (w.frm ++ [x]) m p
  rw [key m hm p hpp]
  unfold see at h ⊢
  rw [h2 h m p]
  by_cases e:m=x.toNat
  ·rw [if_pos ⟨e,Nat.zero_le _,by omega⟩,if_pos e]
  ·rw [if_neg (fun hh=>e hh.1),if_neg e]
theorem step_frm {r:Run} (ok:Ok r) {n:Nat} (hn:n < r.found.length) {w:WayS} (hw:WayOK r w) (hl:w.frm.length=n) :
  (step r n w).map (·.frm)=((fnd r n).frm.map fun m=>w.frm ++ [m]).filter (canBe r) /\ ∀ v,v ∈ step r n w->WayOK r v:=by
 have:∀ L:List Int,(∀ x,x ∈ L->0<=x/\x < r.machines.length)->(L.filterMap (one r n w)).map (·.frm)=(L.map fun m=>w.frm ++ [m]).filter (canBe r) /\ ∀ v,v ∈ L.filterMap (one r n w)->WayOK r v:=by
  intro L
  induction L with
  | nil=>intro _; exact ⟨rfl,fun v h=>by cases h⟩
  | cons x L ih =>
   intro hL
   obtain ⟨h1,h2⟩:=one_ok ok hn hw hl (hL x (List.mem_cons_self ..))
   obtain ⟨i1,i2⟩:=ih fun y hy=>hL y (List.mem_cons_of_mem _ hy)
   cases e:canBe r (w.frm ++ [x]) with
   | true =>
    rw [e] at h1
    have ho:one r n w x=some ⟨w.frm ++ [x],(see (fnd r n) x.toNat w.whn).2⟩:=by rw [one,if_pos h1]
    rw [List.filterMap_cons_some ho,List.map_cons (f:=fun m=>w.frm ++ [m]),List.filter_cons_of_pos e]
    refine ⟨by simp only [List.map_cons,i1],fun v hv => ?_⟩
    rcases List.mem_cons.1 hv with rfl | hv
    ·exact h2 h1
    ·exact i2 v hv
   | false =>
    rw [e] at h1
    have ho:one r n w x=none:=by rw [one,h1]; rfl
    rw [List.filterMap_cons_none ho,List.map_cons,List.filter_cons_of_neg (by rw [e]; exact Bool.false_ne_true)]
    exact ⟨i1,i2⟩
 exact this _ fun x hx=>frm_range ok hn hx
theorem waysTo_link {r:Run} (ok:Ok r):∀ n,n<=r.found.length->(waysTo r n).map (·.frm)=(chFrom r [] n).filter (canBe r) /\ ∀ w,w ∈ waysTo r n->WayOK r w:=by
 intro n
 induction n with
 | zero =>
  intro _
  have hs:∀ m,m < r.machines.length -> ∀ p:Nat,(p:Int) < r.plates->firstWhn r r.machines.length m p=spanOf r [] m p:=by
   intro m hm p hp
   have:=(ok.mach m hm).1
   unfold firstWhn
   rw [if_pos hm,if_pos (by omega)]; rfl
  have hc:canBe r []=true:=by
   rw [canBe_iff ok]
   intro m hm p hp
   have h1:=(ok.mach m hm).1
   have h2:=ok.span m hm p (by omega)
   show (chg (mach r m) p).lo<=(chg (mach r m) p).hi
   omega
  refine ⟨?_,fun w hw => ?_⟩
  ·show [([]:List Int)]=List.filter (canBe r) [[]]
   rw [List.filter_cons_of_pos hc]; rfl
  ·have:w=⟨[],firstWhn r r.machines.length⟩:=by simpa [waysTo] using hw
   subst this
   exact ⟨hc,hs⟩
 | succ n ih =>
  intro hn
  obtain ⟨h1,h2⟩:=ih (by omega)
  have hst:=fun w hw=>step_frm ok (n:=n) (by omega) (h2 w hw) (waysTo_frm n w hw)
  refine ⟨?_,fun v hv => ?_⟩
  ·rw [waysTo,chFrom,List.map_flatMap,filter_flatMap _ _ (canBe r) (canBe r) (fun l hl hf x hx => ?_),← h1,List.flatMap_map]
   ·have:∀ L:List WayS,(∀ w,w ∈ L->w ∈ waysTo r n)->L.flatMap (fun w=>(step r n w).map (·.frm))=L.flatMap fun w=>((fnd r w.frm.length).frm.map fun m=>w.frm ++ [m]).filter (canBe r):=by
     intro L
     induction L with
     | nil=>intro _; rfl
     | cons w L ihL =>
      intro hL
      rw [List.flatMap_cons,List.flatMap_cons,ihL (fun v hv=>hL v (List.mem_cons_of_mem _ hv)),(hst w (hL w (List.mem_cons_self ..))).1,waysTo_frm n w (hL w (List.mem_cons_self ..))]
    exact this _ fun w hw=>hw
   ·obtain ⟨m,_,rfl⟩:=List.mem_map.1 hx
    cases e:canBe r (l ++ [m]) with
    | false=>rfl
    | true=>rw [canBe_snoc ok e] at hf; cases hf
  ·rw [waysTo,List.mem_flatMap] at hv
   obtain ⟨w,hw,hv⟩:=hv
   exact (hst w hw).2 v hv
theorem ways_froms {r:Run} (ok:Ok r):(waysOf r).map (·.frm)=fromsOf r:=by
 rw [waysOf,(waysTo_link ok _ (Nat.le_refl _)).1,fromsOf,choices_from]
theorem way_ok {r:Run} (ok:Ok r) {w:WayS} (h:w ∈ waysOf r):WayOK r w:=(waysTo_link ok _ (Nat.le_refl _)).2 w h
theorem ways_len {r:Run} (ok:Ok r):(waysOf r).length=(fromsOf r).length:=by rw [← ways_froms ok,List.length_map]
theorem open_eq (r:Run) (is:Bool):openE r is=rfE r is:=by
 unfold openE rfE
 split
 ·rename_i h
  rw [ways_len (ok_of (check_zero.1 h))]
 ·rfl
end Go.Sh
namespace Go.Sh
theorem rf_zero {r:Run} {is:Bool} (h:rfE r is=0):Ok r/\is=true:=⟨ok_of (check_zero.1 (rfE_zero h).1),(rfE_zero h).2.1⟩
theorem cnt_all (l:List WayS) (P:WayS->Bool):cnt l P l.length=l.countP P:=by rw [cnt,List.take_length]
end Go.Sh
namespace Go.Sh
end Go.Sh
namespace Go.Ab
open Go Go.RowKit Go.Proofs Go.Sh Go.En
end Go.Ab
namespace Go.Ab
open Go Go.RowKit Go.Proofs Go.Sh Go.En
end Go.Ab
namespace Go.Sh
structure Shn where
 ch:Int
 rate:Int
 deriving DecidableEq,Inhabited
def firstTo (h:Hs) (l:List Int) (n:Nat):Int:=(List.range n).foldl (fun a i=>max a (thg h (l.getD i 0).toNat).at_) 0
def firstV (h:Hs) (l:List Int):Int:=firstTo h l l.length
def lastT (h:Hs) (l:List Int):Int:=min 30 (100 - firstV h l)
def atT (h:Hs) (l:List Int) (c:Int) (i:Nat):Int:=min (lastT h l) (max 0 (sinceV h c (l.getD i 0).toNat - firstV h l))
def chT (h:Hs) (l:List Int) (c:Int) (n:Nat):List Span:=(List.range n).map (fun i=>⟨atT h l c i,atT h l c i⟩)
def runS (h:Hs) (l:List Int) (x:Shn):Run:=⟨l.length,lastT h l,[⟨chT h l x.ch l.length,x.rate⟩],[]⟩
def minT (h:Hs) (l:List Int) (c:Int):Nat->Int
 | 0=>0
 | n + 1=>if isIn (mixed7 h l (firstV h l + (n:Int))) c then minT h l c n + 1 else minT h l c n
def wantT (h:Hs) (l:List Int) (c:Int):Int:=if minT h l c (lastT h l).toNat > 0 then 1 else 2
end Go.Sh
namespace Go.En
open Go Go.Ab Go.Sh
def cShn (x:Shn):List AV:=[iv x.ch,iv x.rate]
abbrev vShn (x:Shn):AV := .agg (cShn x)
end Go.En
namespace Go.Ab
open Go Go.RowKit Go.Proofs Go.Sh Go.En
def s14 (g:Hs) (l:List Int) (x:Shn):CallSpec:={ args:=[vHs g,aInts l,vShn x],res:=bv true,pre:=fitsH g/\l.length<=1125899906842624 }
def h14a (g:Hs) (l:List Int) (x:Shn):Hint:={ X:=Nat,M:=fun i=>[(8,iv i),(7,iv (firstTo g l i))],I:=fun i=>i<=l.length,mu:=fun i=>l.length - i,x0:=(0:Nat),nx:=fun i=>i + 1 }
def h14b (g:Hs) (l:List Int) (x:Shn):Hint:={ X:=Nat,M:=fun i=>[(11,iv i),(10,.ptr 5000 [])],H:=fun i=>[(5000,.cells 42 [.vec 5001,iv x.rate]),(5001,.vec 37 2 i (fun k=>cSpan ((chT g l x.ch i).getD k default)))],I:=fun i=>i<=l.length,mu:=fun i=>l.length - i,x0:=(0:Nat),nx:=fun i=>i + 1 }
def h14c (g:Hs) (l:List Int) (x:Shn):Hint:={ X:=Nat,M:=fun i=>[(16,iv i),(15,iv (minT g l x.ch i))],I:=fun i=>i<=(lastT g l).toNat,mu:=fun i=>(lastT g l).toNat - i,x0:=(0:Nat),nx:=fun i=>i + 1 }
def c14d (g:Hs) (l:List Int) (x:Shn) (i:Nat):CallSpec:=s64 g l (firstV g l + (i:Int))
end Go.Ab
namespace Go.Sh
theorem map_getD {l:List WayS} {i:Nat} (h:i < l.length):(l.map (·.frm)).getD i []=(l.getD i default).frm:=by
 rw [Go.Ab.getD_lt _ _ (by simpa using h),Go.Ab.getD_lt _ _ h,List.getElem_map]
theorem hull_eq {l:List WayS} {F:WayS->Span} {G:List Int->Span} (hl:0 < l.length) (h:∀ w,w ∈ l->F w=G w.frm):hullOf l F=rhull (l.map (·.frm)) G:=by
 have:∀ n,n<=l.length->hullTo l F n=rhullTo (l.map (·.frm)) G n:=by
  intro n
  induction n with
  | zero =>
   intro _
   show F (l.getD 0 default)=G ((l.map (·.frm)).getD 0 [])
   rw [map_getD hl]
   exact h _ (Go.Ab.getD_mem _ default hl)
  | succ n ih =>
   intro hn
   rw [hullTo_succ,rhullTo_succ,ih (by omega),map_getD (by omega),h _ (Go.Ab.getD_mem _ default (by omega))]
 rw [hullOf,rhull,this _ (Nat.le_refl _),List.length_map]
theorem isIn_mem {l:List Int} {x:Int}:isIn l x=true ↔ x ∈ l:=by
 unfold isIn; simp
end Go.Sh
namespace Go.Sh
theorem sumTo_congr {r:Run} {f g:Nat->Span}:∀ n,n<=r.machines.length->(∀ m,m < n->f m=g m)->sumTo r f n=sumTo r g n:=by
 intro n
 induction n with
 | zero=>intro _ _; rfl
 | succ n ih =>
  intro h1 h2
  rw [sumTo_succ,sumTo_succ,ih (by omega) (fun m hm=>h2 m (by omega)),h2 n (by omega)]
theorem spread_minutes {g h:Nat->Span} {n:Nat} (hn:1<=n/\n<=3) (he:∀ p,p < n->g p=h p) (hs:∀ p,p < n->(h p).lo<=(h p).hi):spread g n=minutes h n:=by
 have h0:=he 0 (by omega)
 have s0:=hs 0 (by omega)
 have:n=1 ∨ n=2 ∨ n=3:=by omega
 rcases this with rfl | rfl | rfl
 ·simp only [spread,minutes,sprTo,minTo,minIn,sprIn,List.range_succ,List.range_zero,List.nil_append,List.foldl_cons,List.foldl_nil,if_true,h0]
  congr 1 <;> omega
 ·have h1:=he 1 (by omega)
  have s1:=hs 1 (by omega)
  simp only [spread,minutes,sprTo,minTo,minIn,sprIn,List.range_succ,List.range_zero,List.nil_append,List.cons_append,List.foldl_cons,List.foldl_nil,if_true,h0,h1]
  simp only [show ¬ (0:Nat)=1 by omega,show ¬ (1:Nat)=0 by omega,if_false]
  congr 1 <;> omega
 ·have h1:=he 1 (by omega)
  have s1:=hs 1 (by omega)
  have h2:=he 2 (by omega)
  have s2:=hs 2 (by omega)
  simp only [spread,minutes,sprTo,minTo,minIn,sprIn,List.range_succ,List.range_zero,List.nil_append,List.cons_append,List.foldl_cons,List.foldl_nil,if_true,h0,h1,h2]
  simp only [show ¬ (0:Nat)=1 by omega,show ¬ (1:Nat)=0 by omega,show ¬ (0:Nat)=2 by omega,show ¬ (2:Nat)=0 by omega,show ¬ (1:Nat)=2 by omega,show ¬ (2:Nat)=1 by omega,if_false]
  congr 1 <;> omega
theorem way_spread {r:Run} (ok:Ok r) {w:WayS} (hw:w ∈ waysOf r) {m:Nat} (hm:m < r.machines.length):spread (w.whn m) r.plates.toNat=minutes (spanOf r w.frm m) r.plates.toNat:=by
 have hp:=ok.plates
 have h:=way_ok ok hw
 exact spread_minutes (by omega) (fun p hlt=>h.2 m hm p (by omega)) (fun p hlt=>(canBe_iff ok).1 h.1 m hm p (by omega))
theorem way_mix {r:Run} (ok:Ok r) {w:WayS} (hw:w ∈ waysOf r):mixF r w=mixL r w.frm:=sumTo_congr _ (Nat.le_refl _) fun _ hm=>way_spread ok hw hm
theorem minutes_le {h:Nat->Span} {n:Nat} (hn:1<=n/\n<=3) (hs:∀ p,p < n->(h p).lo<=(h p).hi):(minutes h n).lo<=(minutes h n).hi:=by
 have s0:=hs 0 (by omega)
 have:n=1 ∨ n=2 ∨ n=3:=by omega
 rcases this with rfl | rfl | rfl
 ·simp only [minutes,minTo,minIn,List.range_succ,List.range_zero,List.nil_append,List.foldl_cons,List.foldl_nil,if_true]
  omega
 ·have s1:=hs 1 (by omega)
  simp only [minutes,minTo,minIn,List.range_succ,List.range_zero,List.nil_append,List.cons_append,List.foldl_cons,List.foldl_nil,if_true]
  simp only [show ¬ (0:Nat)=1 by omega,show ¬ (1:Nat)=0 by omega,if_false]
  omega
 ·have s1:=hs 1 (by omega)
  have s2:=hs 2 (by omega)
  simp only [minutes,minTo,minIn,List.range_succ,List.range_zero,List.nil_append,List.cons_append,List.foldl_cons,List.foldl_nil,if_true]
  simp only [show ¬ (0:Nat)=1 by omega,show ¬ (1:Nat)=0 by omega,show ¬ (0:Nat)=2 by omega,show ¬ (2:Nat)=0 by omega,show ¬ (1:Nat)=2 by omega,show ¬ (2:Nat)=1 by omega,if_false]
  omega
theorem mixed_eq (r:Run) (m:Int):mixedS r m=mixedR r m:=by
 unfold mixedS mixedR
 rw [open_eq]
 split
 ·rename_i h0
  obtain ⟨ok,his⟩:=rf_zero h0
  have hm:=machIs_ok his
  have hpl:=ok.plates
  have hw:∀ w,w ∈ waysOf r->spread (w.whn m.toNat) r.plates.toNat=minutes (spanOf r w.frm m.toNat) r.plates.toNat/\(minutes (spanOf r w.frm m.toNat) r.plates.toNat).lo<=(minutes (spanOf r w.frm m.toNat) r.plates.toNat).hi:=by
   intro w h
   refine ⟨way_spread ok h (by omega),minutes_le (by omega) fun p hp => ?_⟩
   exact (canBe_iff ok).1 (way_ok ok h).1 _ (by omega) p (by omega)
  have hsu:suTo r (fromsOf r) m.toNat (fromsOf r).length=(waysOf r).all (mxSo r m.toNat):=by
   rw [suTo,List.take_length,← ways_froms ok,List.all_map,Bool.eq_iff_iff,List.all_eq_true,List.all_eq_true]
   constructor
   ·intro h w h1; have:=h w h1; rw [mxSo,(hw w h1).1]; exact this
   ·intro h w h1; have:=h w h1; rw [mxSo,(hw w h1).1] at this; exact this
  have hnv:nvTo r (fromsOf r) m.toNat (fromsOf r).length=(waysOf r).all (mxNot r m.toNat):=by
   rw [nvTo,List.take_length,← ways_froms ok,List.all_map,Bool.eq_iff_iff,List.all_eq_true,List.all_eq_true]
   constructor
   ·intro h w h1
    have h2:=h w h1
    have h3:=(hw w h1).2
    simp only [Function.comp_apply,decide_eq_true_eq] at h2
    rw [mxNot,mxSo,(hw w h1).1]
    simp only [Bool.and_eq_true,Bool.not_eq_true',decide_eq_true_eq,decide_eq_false_iff_not]
    omega
   ·intro h w h1
    have h2:=h w h1
    rw [mxNot,mxSo,(hw w h1).1] at h2
    simp only [Bool.and_eq_true] at h2
    exact h2.2
  rw [cnt_all,cnt_all,hsu,hnv]
  unfold known3
  by_cases c1:(waysOf r).countP (mxSo r m.toNat)=(waysOf r).length
  ·rw [if_pos (by rw [c1]),if_pos (by rw [List.all_eq_true]; exact List.countP_eq_length.1 c1)]
  ·rw [if_neg (by omega),if_neg (fun h=>c1 (List.countP_eq_length.2 (List.all_eq_true.1 h)))]
   by_cases c2:(waysOf r).countP (mxNot r m.toNat)=(waysOf r).length
   ·rw [if_pos (by rw [c2]),if_pos (by rw [List.all_eq_true]; exact List.countP_eq_length.1 c2)]
   ·rw [if_neg (by omega),if_neg (fun h=>c2 (List.countP_eq_length.2 (List.all_eq_true.1 h)))]
 ·rfl
end Go.Sh
namespace Go.Sh
def rated (t:Int) (m:Mach):Mach:=⟨m.changes,Go.Ab.wr (m.rate * t)⟩
def ratedR (r:Run) (t:Int):Run:=⟨r.plates,r.last,r.machines.map (rated t),r.found⟩
def hb (s:Span):Prop:=0<=s.lo/\s.lo<=s.hi/\s.hi<=30
structure RatesF (r:Run) (t p:Int):Prop where
 ok:Ok r
 tt:0<=t/\t<=9
 e1:openE r (isPlate r p)=0
 e2:openE (ratedR r t) (isPlate (ratedR r t) p)=0
 e3:openE r true=0
 e4:openE (ratedR r t) true=0
 old:0<=(oldS r p).lo/\(oldS r p).lo<=(oldS r p).hi/\(oldS r p).hi<=810
 mix:0<=(mixesS r).lo/\(mixesS r).lo<=(mixesS r).hi/\(mixesS r).hi<=810
 old2:oldS (ratedR r t) p=⟨(oldS r p).lo * t,(oldS r p).hi * t⟩
 mix2:mixesS (ratedR r t)=⟨(mixesS r).lo * t,(mixesS r).hi * t⟩
end Go.Sh
namespace Go.Sh
theorem span_ext {a b:Span} (h1:a.lo=b.lo) (h2:a.hi=b.hi):a=b:=by cases a; cases b; simp only at h1 h2; rw [h1,h2]
structure One (r:Run):Prop where
 ok:Ok r
 zero:∀ is,is=true->rfE r is=0
 pos:0 < (fromsOf r).length
theorem one_of {r:Run} (ok:okRun r=true) {x:List Int} (h:x ∈ fromsOf r):One r:=by
 have hp:=List.length_pos_of_mem h
 exact ⟨ok_of ok,fun is hi=>by rw [rfE,if_pos (check_zero.2 ok),if_pos hi,if_neg (by omega)],hp⟩
end Go.Sh
namespace Go.Sh
structure Tld where
 when:List Span
 old:List Span
 whr:List (List Int)
 mixed:List Int
 mixes:Span
 fewest:Int
 deriving DecidableEq,Inhabited
theorem isMachine_nat {r:Run} {m:Nat} (hm:m < r.machines.length):isMachine r (m:Int)=true:=by
 simp only [isMachine,within_iff]; omega
theorem one_open {r:Run} (h:One r) {is:Bool} (hi:is=true):openE r is=0:=by rw [open_eq]; exact h.zero _ hi
theorem mixes_val {r:Run} (h:One r):mixesS r=rhull (fromsOf r) (mixL r):=by
 have hw:0 < (waysOf r).length:=by rw [ways_len h.ok]; exact h.pos
 rw [mixesS,if_pos (one_open h rfl),hull_eq (G:=mixL r) hw (fun w hw=>way_mix h.ok hw),ways_froms h.ok]
theorem mixed_val {r:Run} (h:One r) {m:Nat} (hm:m < r.machines.length):mixedS r (m:Int)=if (∀ x,x ∈ fromsOf r->0 < (minutes (spanOf r x m) r.plates.toNat).lo) then 1 else if (∀ x,x ∈ fromsOf r->(minutes (spanOf r x m) r.plates.toNat).hi=0) then 2 else 3:=by
 rw [mixed_eq,mixedR,if_pos (h.zero _ (isMachine_nat hm)),Int.toNat_natCast]
 have e1:suTo r (fromsOf r) m (fromsOf r).length=true ↔ ∀ x,x ∈ fromsOf r->0 < (minutes (spanOf r x m) r.plates.toNat).lo:=by
  rw [suTo,List.take_length,List.all_eq_true]; simp only [decide_eq_true_eq,gt_iff_lt]
 have e2:nvTo r (fromsOf r) m (fromsOf r).length=true ↔ ∀ x,x ∈ fromsOf r->(minutes (spanOf r x m) r.plates.toNat).hi=0:=by
  rw [nvTo,List.take_length,List.all_eq_true]; simp only [decide_eq_true_eq]
 by_cases c1:∀ x,x ∈ fromsOf r->0 < (minutes (spanOf r x m) r.plates.toNat).lo
 ·rw [if_pos (e1.2 c1),if_pos c1]
 ·rw [if_neg (fun hh=>c1 (e1.1 hh)),if_neg c1]
  by_cases c2:∀ x,x ∈ fromsOf r->(minutes (spanOf r x m) r.plates.toNat).hi=0
  ·rw [if_pos (e2.2 c2),if_pos c2]
  ·rw [if_neg (fun hh=>c2 (e2.1 hh)),if_neg c2]
theorem ok_fits {r:Run} (ok:Ok r):fits r:=by
 have h1:=ok.machines
 have h2:=ok.found
 have h3:=ok.plates
 refine ⟨by omega,by omega,fun i => ?_,fun i => ?_⟩
 ·by_cases hi:i < r.machines.length
  ·have:=ok.mach i hi; omega
  ·rw [mach,Go.Ab.getD_ge _ _ (by omega)]; exact Nat.zero_le _
 ·by_cases hi:i < r.found.length
  ·have:=ok.fnd i hi; have:=frm_len ok hi; omega
  ·rw [fnd,Go.Ab.getD_ge _ _ (by omega)]; exact ⟨Nat.zero_le _,Nat.zero_le _⟩
structure Clear (x y:Tld):Prop where
 wl:x.when.length=y.when.length/\x.when.length<=65536
 ol:x.old.length=y.old.length/\x.old.length<=65536
 ml:x.mixed.length=y.mixed.length/\x.mixed.length<=65536
 hl:y.whr.length<=x.whr.length/\x.whr.length<=65536
 mixes:inside x.mixes y.mixes=true
 few:y.fewest<=x.fewest
 when:∀ i,i < x.when.length->inside (x.when.getD i default) (y.when.getD i default)=true
 old:∀ i,i < x.old.length->inside (x.old.getD i default) (y.old.getD i default)=true
 mixed:∀ i,i < x.mixed.length->y.mixed.getD i 0=3 ∨ x.mixed.getD i 0=y.mixed.getD i 0
 whr:∀ i,i < y.whr.length->(∀ k,k < (x.whr.getD i []).length->isIn (y.whr.getD i []) ((x.whr.getD i []).getD k 0)=true)/\(x.whr.getD i []).length<=65536/\(y.whr.getD i []).length<=65536
structure Finer (o r:Run) (φ:List Int->List Int):Prop where
 ro:One r
 oo:One o
 ml:o.machines.length=r.machines.length
 pl:o.plates=r.plates
 rate:∀ m,m < r.machines.length->(mach o m).rate=(mach r m).rate
 mem:∀ x,x ∈ fromsOf o->φ x ∈ fromsOf r
 span:∀ x,x ∈ fromsOf o -> ∀ m,m < r.machines.length -> ∀ p:Nat,(p:Int) < r.plates->(spanOf r (φ x) m p).lo<=(spanOf o x m p).lo/\(spanOf o x m p).hi<=(spanOf r (φ x) m p).hi
 sub:∀ x,x ∈ fromsOf o -> ∀ v,v ∈ φ x->v ∈ x
end Go.Sh
namespace Go.Sh
open Go.Ab
theorem guard14 {a b c d e f:Bool} (h:(bif bif bif bif bif a then true else b then true else c then true else d then true else e then true else f)=false):a=false/\b=false/\c=false/\d=false/\e=false/\f=false:=by
 cases a <;> cases b <;> cases c <;> cases d <;> cases e <;> cases f <;> simp_all
theorem markTo_S {g:Hs} {c:Int} {x:Nat} {tab:List (Int × Int)} (hok:okH g=true) (hx:x < g.things.length) (h:0<=(base7 g x tab).1/\(base7 g x tab).1<=100):∀ n,n<=g.marks.length->0<=(markTo g c x tab n).1/\(markTo g c x tab n).1<=100:=by
 intro n
 induction n with
 | zero=>intro _; exact h
 | succ n ih =>
  intro hn
  rw [markTo_succ,markStep]
  split
  ·rename_i hm
   have h1:=(okH_iff.1 hok).2.2.2 _ (Go.Ab.getD_mem g.marks default (i:=n) (by omega))
   have h2:=okT_facts ((okH_iff.1 hok).2.2.1 x hx)
   simp only [markB,Bool.and_eq_true,decide_eq_true_eq] at hm
   simp only [okM,Bool.and_eq_true,Go.Sh.within_iff] at h1
   have e:(g.marks.getD n default).th.toNat=x:=by rw [hm.1.1]; rfl
   rw [e] at h1
   show 0<=(g.marks.getD n default).at_/\(g.marks.getD n default).at_<=100
   omega
  ·exact ih (by omega)
theorem base_S {g:Hs} {x:Nat} {tab:List (Int × Int)} (hok:okH g=true) (hx:x < g.things.length):0<=(base7 g x tab).1/\(base7 g x tab).1<=100:=by
 have:=(okT_facts ((okH_iff.1 hok).2.2.1 x hx)).2.1
 rw [base7]
 split
 ·show 0<=(thg g x).at_/\(thg g x).at_<=100; omega
 ·exact ⟨by decide,by decide⟩
theorem since_in {g:Hs} {c:Int} (hok:okH g=true) {i:Nat} (hi:i < g.things.length):0<=sinceV g c i/\sinceV g c i<=100:=by
 have:∀ n,n<=g.things.length -> ∀ j,j < n->0<=((tab7 g c n).getD j (0,0)).1/\((tab7 g c n).getD j (0,0)).1<=100:=by
  intro n
  induction n with
  | zero=>intro _ j hj; omega
  | succ n ih =>
   intro hn j hj
   rw [ts_succ]
   split
   ·exact markTo_S hok (by omega) (base_S hok (by omega)) _ (Nat.le_refl _)
   ·exact ih (by omega) j (by omega)
 exact this _ (Nat.le_refl _) i hi
theorem firstTo_succ (g:Hs) (l:List Int) (n:Nat):firstTo g l (n + 1)=max (firstTo g l n) (thg g (l.getD n 0).toNat).at_:=Go.Ab.foldl_range_succ _ _ _
theorem first_in {g:Hs} {l:List Int} (hok:okH g=true) (hr:rising l 0 ((g.things.length:Int) - 1)=true):∀ n,n<=l.length->(0<=firstTo g l n/\firstTo g l n<=99) /\ ∀ j,j < n->(thg g (l.getD j 0).toNat).at_<=firstTo g l n:=by
 intro n
 induction n with
 | zero=>intro _; have e:firstTo g l 0=0:=rfl; exact ⟨⟨by omega,by omega⟩,fun j hj=>by omega⟩
 | succ n ih =>
  intro hn
  have h1:=ih (by omega)
  have h2:=rising_at hr (i:=n) (by omega)
  have h3:=(okT_facts ((okH_iff.1 hok).2.2.1 (l.getD n 0).toNat (by omega))).2.1
  rw [firstTo_succ]
  refine ⟨by omega,fun j hj => ?_⟩
  by_cases e:j=n
  ·subst e; omega
  ·have:=h1.2 j (by omega); omega
theorem minT_count {g:Hs} {l:List Int} {c:Int} {mn mx:Int} (h0:0<=mn/\mn<=mx):∀ n:Nat,(∀ i:Nat,i < n->(isIn (mixed7 g l (firstV g l + (i:Int))) c=true ↔ mn<=i/\i < mx))->minT g l c n=max 0 (min (n:Int) mx - mn):=by
 intro n
 induction n with
 | zero=>intro _; rw [minT]; omega
 | succ n ih =>
  intro h
  have h1:=ih fun i hi=>h i (by omega)
  have h2:=h n (by omega)
  rw [minT]
  cases hh:isIn (mixed7 g l (firstV g l + (n:Int))) c with
  | true=>have:=h2.1 hh; rw [if_pos rfl,h1]; omega
  | false =>
   have:¬ (mn<=n/\(n:Int) < mx):=fun h3=>by have:=h2.2 h3; rw [hh] at this; cases this
   rw [if_neg (by decide),h1]; omega
end Go.Sh
namespace Go.Sh
open Go.Ab
def mnA (a:Nat->Int):Nat->Int
 | 0=>a 0
 | n + 1=>min (mnA a n) (a (n + 1))
def mxA (a:Nat->Int):Nat->Int
 | 0=>a 0
 | n + 1=>max (mxA a n) (a (n + 1))
theorem mnA_le {a:Nat->Int} {v:Int}:∀ n,mnA a n<=v ↔ ∃ j,j<=n/\a j<=v:=by
 intro n
 induction n with
 | zero=>exact ⟨fun h=>⟨0,Nat.le_refl _,h⟩,fun ⟨j,h1,h2⟩=>by obtain rfl:j=0:=Nat.le_zero.1 h1; exact h2⟩
 | succ n ih =>
  show min (mnA a n) (a (n + 1))<=v ↔ _
  constructor
  ·intro h
   by_cases h1:mnA a n<=v
   ·obtain ⟨j,h2,h3⟩:=ih.1 h1; exact ⟨j,by omega,h3⟩
   ·exact ⟨n + 1,Nat.le_refl _,by omega⟩
  ·rintro ⟨j,h1,h2⟩
   by_cases e:j=n + 1
   ·subst e; omega
   ·have:=ih.2 ⟨j,by omega,h2⟩; omega
theorem mxA_lt {a:Nat->Int} {v:Int}:∀ n,v < mxA a n ↔ ∃ j,j<=n/\v < a j:=by
 intro n
 induction n with
 | zero=>exact ⟨fun h=>⟨0,Nat.le_refl _,h⟩,fun ⟨j,h1,h2⟩=>by obtain rfl:j=0:=Nat.le_zero.1 h1; exact h2⟩
 | succ n ih =>
  show v < max (mxA a n) (a (n + 1)) ↔ _
  constructor
  ·intro h
   by_cases h1:v < mxA a n
   ·obtain ⟨j,h2,h3⟩:=ih.1 h1; exact ⟨j,by omega,h3⟩
   ·exact ⟨n + 1,Nat.le_refl _,by omega⟩
  ·rintro ⟨j,h1,h2⟩
   by_cases e:j=n + 1
   ·subst e; omega
   ·have:=ih.2 ⟨j,by omega,h2⟩; omega
theorem mn_mx (a:Nat->Int):∀ n,mnA a n<=mxA a n:=by
 intro n
 induction n with
 | zero=>exact Int.le_refl _
 | succ n ih=>show min (mnA a n) (a (n + 1))<=max (mxA a n) (a (n + 1)); omega
theorem minutes_pt {g:Nat->Span} {a:Nat->Int} {n:Nat} (hn:n<=2) (h:∀ p,p<=n->g p=⟨a p,a p⟩):minutes g (n + 1)=⟨mxA a n - mnA a n,mxA a n - mnA a n⟩:=by
 have:n=0 ∨ n=1 ∨ n=2:=by omega
 rcases this with rfl | rfl | rfl
 ·have h0:=h 0 (by omega)
  simp only [minutes,minTo,minIn,List.range,List.range.loop,List.foldl,h0,mnA,mxA]
  exact span_ext (by simp) (by simp)
 ·have h0:=h 0 (by omega); have h1:=h 1 (by omega)
  simp only [minutes,minTo,minIn,List.range,List.range.loop,List.foldl,h0,h1,mnA,mxA]
  exact span_ext (by simp; omega) (by simp; omega)
 ·have h0:=h 0 (by omega); have h1:=h 1 (by omega); have h2:=h 2 (by omega)
  simp only [minutes,minTo,minIn,List.range,List.range.loop,List.foldl,h0,h1,h2,mnA,mxA]
  exact span_ext (by simp; omega) (by simp; omega)
theorem chT_succ (g:Hs) (l:List Int) (c:Int) (n:Nat):chT g l c (n + 1)=chT g l c n ++ [⟨atT g l c n,atT g l c n⟩]:=by unfold chT; rw [List.range_succ,List.map_append]; rfl
theorem chT_len (g:Hs) (l:List Int) (c:Int) (n:Nat):(chT g l c n).length=n:=by unfold chT; rw [List.length_map,List.length_range]
theorem chT_get (g:Hs) (l:List Int) (c:Int) {n i:Nat} (hi:i < n):(chT g l c n).getD i default=⟨atT g l c i,atT g l c i⟩:=by
 rw [Go.Ab.getD_lt _ _ (by rw [chT_len]; exact hi)]
 unfold chT
 rw [List.getElem_map,List.getElem_range]
end Go.Sh
namespace Go.Sh
open Go.Ab
theorem at_in {g:Hs} {l:List Int} {c:Int} (h:0<=lastT g l) (i:Nat):0<=atT g l c i/\atT g l c i<=lastT g l:=by
 unfold atT; omega
theorem run_span (g:Hs) (l:List Int) (x:Shn) {p:Nat} (hp:p < l.length):spanOf (runS g l x) [] 0 p=⟨atT g l x.ch p,atT g l x.ch p⟩:=chT_get g l x.ch hp
theorem run_ok {g:Hs} {l:List Int} {x:Shn} (hl:1<=l.length/\l.length<=3) (hr:0<=x.rate/\x.rate<=9) (hf:0<=firstV g l/\firstV g l<=99):okRun (runS g l x)=true:=by
 have hlast:1<=lastT g l/\lastT g l<=30:=by unfold lastT; omega
 have h1:okHead (runS g l x)=true:=by
  simp only [okHead,Bool.and_eq_true,Go.Sh.within_iff,Bool.not_eq_true',decide_eq_false_iff_not]
  refine ⟨⟨⟨?_,hlast⟩,?_⟩,?_⟩
  ·show 1<=(l.length:Int)/\(l.length:Int)<=3; omega
  ·show 1<=((1:Nat):Int)/\((1:Nat):Int)<=3; exact ⟨by decide,by decide⟩
  ·show ¬ (((0:Nat):Int) > 6); decide
 have h2:okMachA (runS g l x) ⟨chT g l x.ch l.length,x.rate⟩=true:=by
  simp only [okMachA,okMach,Bool.and_eq_true,decide_eq_true_eq,Go.Sh.within_iff]
  refine ⟨⟨?_,hr⟩,?_⟩
  ·show ((chT g l x.ch l.length).length:Int)=(l.length:Int); rw [chT_len]
  ·refine all_idx _ default _ fun j hj => ?_
   rw [chT_len] at hj
   show isSpan ((chT g l x.ch l.length).getD j default) (lastT g l)=true
   rw [chT_get g l x.ch hj]
   have:=at_in (g:=g) (l:=l) (c:=x.ch) (by omega) j
   simp only [isSpan,Bool.and_eq_true,Go.Sh.within_iff]
   omega
 show (okHead (runS g l x) && [(⟨chT g l x.ch l.length,x.rate⟩:Mach)].all (okMachA (runS g l x)) && ([]:List Fnd).all (okFndA (runS g l x)))=true
 rw [h1,List.all_cons,h2]; rfl
theorem run_froms {g:Hs} {l:List Int} {x:Shn}:fromsOf (runS g l x) = [[]]:=by
 have h:canBe (runS g l x) []=true:=by
  show (List.range 1).all (canBeM (runS g l x) [])=true
  rw [List.all_eq_true]
  intro m hm
  have hm0:m=0:=by have:=List.mem_range.1 hm; omega
  subst hm0
  unfold canBeM
  rw [List.all_eq_true]
  intro p hp
  have hp2:p < l.length:=by have:=List.mem_range.1 hp; have e:(runS g l x).plates.toNat=l.length:=rfl; omega
  unfold canBeAt
  rw [run_span g l x hp2]
  exact decide_eq_true (Int.le_refl _)
 rw [fromsOf,choices_end rfl,List.filter_cons_of_pos h]; rfl
def dT (g:Hs) (l:List Int) (c:Int):Int:=mxA (atT g l c) (l.length - 1) - mnA (atT g l c) (l.length - 1)
theorem run_minutes {g:Hs} {l:List Int} {x:Shn} (hl:1<=l.length/\l.length<=3):minutes (spanOf (runS g l x) [] 0) l.length=⟨dT g l x.ch,dT g l x.ch⟩:=by
 have:=minutes_pt (g:=spanOf (runS g l x) [] 0) (a:=atT g l x.ch) (n:=l.length - 1) (by omega) (fun p hp=>run_span g l x (by omega))
 rw [show l.length - 1 + 1=l.length by omega] at this
 exact this
theorem run_one {g:Hs} {l:List Int} {x:Shn} (hok:okRun (runS g l x)=true):One (runS g l x):=one_of hok (x:=[]) (by rw [run_froms]; exact List.mem_singleton.2 rfl)
theorem run_mixes {g:Hs} {l:List Int} {x:Shn} (hok:okRun (runS g l x)=true) (hl:1<=l.length/\l.length<=3):mixesS (runS g l x)=⟨x.rate * dT g l x.ch,x.rate * dT g l x.ch⟩:=by
 have hO:=run_one hok
 have hm:mixL (runS g l x) []=⟨x.rate * dT g l x.ch,x.rate * dT g l x.ch⟩:=by
  show sumTo (runS g l x) (fun m=>minutes (spanOf (runS g l x) [] m) l.length) 1=_
  rw [sumTo_succ,run_minutes hl]
  show (⟨0 + x.rate * _,0 + x.rate * _⟩:Span)=_
  rw [Int.zero_add]
 rw [mixes_val hO,run_froms]
 show hull2 (mixL (runS g l x) []) (mixL (runS g l x) [])=_
 rw [hm,hull2,Int.min_self,Int.max_self]
theorem run_mixed {g:Hs} {l:List Int} {x:Shn} (hok:okRun (runS g l x)=true) (hl:1<=l.length/\l.length<=3):mixedS (runS g l x) 0=if 0 < dT g l x.ch then 1 else 2:=by
 have hO:=run_one hok
 have hd:0<=dT g l x.ch:=by have:=mn_mx (atT g l x.ch) (l.length - 1); unfold dT; omega
 have h:=mixed_val hO (m:=0) (by show 0 < 1; decide)
 rw [show (((0:Nat):Int))=0 from rfl] at h
 rw [h,run_froms]
 have e:∀ y:List Int,y ∈ ([[]]:List (List Int))->minutes (spanOf (runS g l x) y 0) (runS g l x).plates.toNat=⟨dT g l x.ch,dT g l x.ch⟩:=by
  intro y hy
  rw [List.mem_singleton] at hy
  subst hy
  exact run_minutes hl
 by_cases c:0 < dT g l x.ch
 ·rw [if_pos (fun y hy=>by rw [e y hy]; exact c),if_pos c]
 ·rw [if_neg (fun h=>c (by have:=h [] (List.mem_singleton.2 rfl); rw [e [] (List.mem_singleton.2 rfl)] at this; exact this)),if_pos (fun y hy=>by rw [e y hy]; show dT g l x.ch=0; omega),if_neg c]
end Go.Sh
namespace Go.Sh
open Go.Ab
theorem mem_mixTo {g:Hs} {l:List Int} {m v:Int}:∀ n,v ∈ mixTo g l m n ↔ ∃ k:Nat,v=k/\k < n/\mixedB (sinceV g (k:Int)) l m=true:=by
 intro n
 induction n with
 | zero=>exact ⟨fun h=>(by cases h),fun ⟨k,_,h,_⟩=>absurd h (Nat.not_lt_zero k)⟩
 | succ n ih =>
  rw [mixTo]
  cases hb:mixedB (sinceV g (n:Int)) l m with
  | true =>
   rw [if_pos rfl,List.mem_append,List.mem_singleton,ih]
   constructor
   ·rintro (⟨k,a,b,c⟩ | h)
    ·exact ⟨k,a,by omega,c⟩
    ·exact ⟨n,h,by omega,hb⟩
   ·rintro ⟨k,a,b,c⟩
    by_cases e:k=n
    ·subst e; exact .inr a
    ·exact .inl ⟨k,a,by omega,c⟩
  | false =>
   rw [if_neg (by decide),ih]
   constructor
   ·rintro ⟨k,a,b,c⟩; exact ⟨k,a,by omega,c⟩
   ·rintro ⟨k,a,b,c⟩
    refine ⟨k,a,?_,c⟩
    by_cases e:k=n
    ·subst e; rw [hb] at c; cases c
    ·omega
theorem mixed_mem {g:Hs} {l:List Int} {m c:Int} (hc:0<=c/\c<=2):isIn (mixed7 g l m) c=true ↔ mixedB (sinceV g c) l m=true:=by
 rw [isIn_mem,mixed7,mem_mixTo]
 constructor
 ·rintro ⟨k,rfl,_,h⟩; exact h
 ·intro h
  have e:c=(c.toNat:Int):=by omega
  exact ⟨c.toNat,e,by omega,by rw [← e]; exact h⟩
theorem mixedB_iff {S:Nat->Int} {l:List Int} {m:Int}:mixedB S l m=true ↔ (∃ j,j < l.length/\S (l.getD j 0).toNat<=m) /\ ∃ j,j < l.length/\m < S (l.getD j 0).toNat:=by
 simp only [mixedB,Bool.and_eq_true,List.any_eq_true,hasB,decide_eq_true_eq,Bool.not_eq_true',decide_eq_false_iff_not]
 constructor
 ·rintro ⟨⟨a,ha,h1⟩,b,hb,h2⟩
  obtain ⟨i,hi,rfl⟩:=List.getElem_of_mem ha
  obtain ⟨j,hj,rfl⟩:=List.getElem_of_mem hb
  exact ⟨⟨i,hi,by rw [Go.Ab.getD_lt _ _ hi]; exact h1⟩,j,hj,by rw [Go.Ab.getD_lt _ _ hj]; omega⟩
 ·rintro ⟨⟨i,hi,h1⟩,j,hj,h2⟩
  exact ⟨⟨_,Go.Ab.getD_mem l 0 hi,h1⟩,_,Go.Ab.getD_mem l 0 hj,by omega⟩
theorem mixed_at {g:Hs} {l:List Int} {c:Int} (hc:0<=c/\c<=2) (hl:1<=l.length) {i:Nat} (hi:i < (lastT g l).toNat):isIn (mixed7 g l (firstV g l + (i:Int))) c=true ↔ mnA (atT g l c) (l.length - 1)<=i/\(i:Int) < mxA (atT g l c) (l.length - 1):=by
 rw [mixed_mem hc,mixedB_iff,mnA_le,mxA_lt]
 have e:∀ j,(sinceV g c (l.getD j 0).toNat<=firstV g l + (i:Int)) ↔ atT g l c j<=i:=fun j=>by unfold atT; omega
 have e2:∀ j,(firstV g l + (i:Int) < sinceV g c (l.getD j 0).toNat) ↔ (i:Int) < atT g l c j:=fun j=>by unfold atT; omega
 constructor
 ·rintro ⟨⟨a,ha,h1⟩,b,hb,h2⟩
  exact ⟨⟨a,by omega,(e a).1 h1⟩,b,by omega,(e2 b).1 h2⟩
 ·rintro ⟨⟨a,ha,h1⟩,b,hb,h2⟩
  exact ⟨⟨a,by omega,(e a).2 h1⟩,b,by omega,(e2 b).2 h2⟩
theorem minT_all {g:Hs} {l:List Int} {c:Int} (hc:0<=c/\c<=2) (hl:1<=l.length) (h0:0<=lastT g l):minT g l c (lastT g l).toNat=dT g l c:=by
 have hm:=mn_mx (atT g l c) (l.length - 1)
 obtain ⟨a,_,ha⟩:=(mnA_le (a:=atT g l c) (v:=mnA (atT g l c) (l.length - 1)) (l.length - 1)).1 (Int.le_refl _)
 have h1:0<=mnA (atT g l c) (l.length - 1):=by
  by_cases h:0<=mnA (atT g l c) (l.length - 1)
  ·exact h
  ·have:=at_in (g:=g) (l:=l) (c:=c) h0 a; omega
 have h2:mxA (atT g l c) (l.length - 1)<=lastT g l:=by
  by_cases h:mxA (atT g l c) (l.length - 1)<=lastT g l
  ·exact h
  ·obtain ⟨b,_,hb⟩:=(mxA_lt (a:=atT g l c) (v:=lastT g l) (l.length - 1)).1 (by omega)
   have:=at_in (g:=g) (l:=l) (c:=c) h0 b; omega
 rw [minT_count ⟨h1,hm⟩ _ (fun i hi=>mixed_at hc hl hi)]
 unfold dT
 omega
theorem minT_in {g:Hs} {l:List Int} {c:Int}:∀ n:Nat,0<=minT g l c n/\minT g l c n<=n:=by
 intro n
 induction n with
 | zero=>exact ⟨Int.le_refl _,Int.le_refl _⟩
 | succ n ih =>
  rw [minT]
  split <;> omega
end Go.Sh
namespace Go.Ab
open Go Go.RowKit Go.Proofs Go.Sh Go.En
abbrev z14_1 (g:Hs) (l:List Int) (x:Shn) (x53:Nat):LoopAnn:=Hint.ann (h14b g l x) [(1,aInts l),(3,AV.ptr 0 []),(5,AV.ptr 8 []),(7,iv (firstTo g l x53)),(9,AV.ptr 10368 [])] [(0,OB.cells 80 (cHs g)),(8,OB.cells 82 (cShn x)),(10368,OB.cells 25 [iv (↑(l.length):Int),iv (min 30 (100 - firstTo g l x53)),nilv,nilv])] 20432
abbrev z14_2 (g:Hs) (l:List Int) (x:Shn) (x53:Nat):LoopAnn:=Hint.ann (h14c g l x) [(1,aInts l),(3,AV.ptr 0 []),(5,AV.ptr 8 []),(7,iv (firstTo g l x53)),(9,AV.ptr 10368 [])] [(0,OB.cells 80 (cHs g)),(8,OB.cells 82 (cShn x)),(10368,OB.cells 25 (cRun (runS g l x)))] 30536
abbrev z14_3 (g:Hs) (l:List Int) (x:Shn):LoopAnn:=Hint.ann (h14a g l x) [(1,aInts l),(3,AV.ptr 0 []),(5,AV.ptr 8 [])] [(0,OB.cells 80 (cHs g)),(8,OB.cells 82 (cShn x))] 10288
abbrev q14_1 (g:Hs) (l:List Int) (x:Shn) (C:Prop):Prop:=fitsH g/\l.length<=1125899906842624->C
abbrev q14_2 (g:Hs) (l:List Int) (x:Shn) (C:Prop):Prop:=q14_1 g l x ((bif bif bif bif bif far7 g then true else !decide (check7 g=0) then true else !within (Shn.ch x) 0 2 then true else !within (Shn.rate x) 0 9 then true else !within (↑(l.length):Int) 1 3 then true else !plates7 g l 99)=false->C)
abbrev q14_3 (g:Hs) (l:List Int) (x:Shn) (C:Nat->Prop):Prop:=q14_2 g l x (∀ (x53:Nat),x53<=l.length->decide ((x53:Int) < (↑(l.length):Int))=true->C x53)
abbrev q14_4 (g:Hs) (l:List Int) (x:Shn) (C:Nat->Prop):Prop:=q14_2 g l x (∀ (x53:Nat),x53<=l.length->decide ((x53:Int) < (↑(l.length):Int))=false->C x53)
abbrev q14_5 (g:Hs) (l:List Int) (x:Shn) (C:Nat->Nat->Prop):Prop:=q14_4 g l x fun x53 => ∀ (x55:Nat),x55<=l.length->decide ((x55:Int) < (↑(l.length):Int))=true->C x53 x55
abbrev q14_6 (g:Hs) (l:List Int) (x:Shn) (C:Nat->Nat->Prop):Prop:=q14_4 g l x fun x53 => ∀ (x55:Nat),x55<=l.length->decide ((x55:Int) < (↑(l.length):Int))=false->C x53 x55
abbrev q14_7 (g:Hs) (l:List Int) (x:Shn) (C:Nat->Nat->Nat->Prop):Prop:=q14_6 g l x fun x53 x55 => ∀ (x88:Nat),x88<=(lastT g l).toNat->decide ((x88:Int) < (runS g l x).last)=true->C x53 x55 x88
abbrev q14_8 (g:Hs) (l:List Int) (x:Shn) (C:Nat->Nat->Nat->Prop):Prop:=q14_7 g l x fun x53 x55 x88=>isIn (mixed7 g l (firstV g l + (x88:Int))) (Shn.ch x)=true->C x53 x55 x88
abbrev q14_9 (g:Hs) (l:List Int) (x:Shn) (C:Nat->Nat->Nat->Prop):Prop:=q14_7 g l x fun x53 x55 x88=>isIn (mixed7 g l (firstV g l + (x88:Int))) (Shn.ch x)=false->C x53 x55 x88
abbrev q14_10 (g:Hs) (l:List Int) (x:Shn) (C:Nat->Nat->Nat->Prop):Prop:=q14_6 g l x fun x53 x55 => ∀ (x88:Nat),x88<=(lastT g l).toNat->decide ((x88:Int) < (runS g l x).last)=false->C x53 x55 x88
theorem w14 (g:Hs) (l:List Int) (x:Shn)
 (o0:q14_1 g l x (far7 g=false->(!far7 g)=true))
 (o1:q14_1 g l x ((bif far7 g then true else !decide (check7 g=0))=false->(!bif far7 g then true else !decide (check7 g=0))=true))
 (o2:q14_1 g l x ((bif bif far7 g then true else !decide (check7 g=0) then true else !within (Shn.ch x) 0 2)=false->(!bif bif far7 g then true else !decide (check7 g=0) then true else !within (Shn.ch x) 0 2)=true))
 (o3:q14_1 g l x ((bif bif bif far7 g then true else !decide (check7 g=0) then true else !within (Shn.ch x) 0 2 then true else !within (Shn.rate x) 0 9)=false->(!bif bif bif far7 g then true else !decide (check7 g=0) then true else !within (Shn.ch x) 0 2 then true else !within (Shn.rate x) 0 9)=true))
 (o4:q14_1 g l x ((bif bif bif bif far7 g then true else !decide (check7 g=0) then true else !within (Shn.ch x) 0 2 then true else !within (Shn.rate x) 0 9 then true else !within (↑(l.length):Int) 1 3)=false->(!bif bif bif bif far7 g then true else !decide (check7 g=0) then true else !within (Shn.ch x) 0 2 then true else !within (Shn.rate x) 0 9 then true else !within (↑(l.length):Int) 1 3)=true))
 (o5:q14_2 g l x (0=(↑0:Int)))
 (o6:q14_2 g l x (0=firstTo g l 0))
 (o7:q14_2 g l x (0<=l.length))
 (o8:q14_3 g l x fun x53=>0<=(x53:Int))
 (o9:q14_3 g l x fun x53=>(x53:Int) < (↑(l.length):Int))
 (o10:q14_3 g l x fun x53=>0<=l.getD x53 0)
 (o11:q14_3 g l x fun x53=>l.getD x53 0 < (↑((Hs.things g).length):Int))
 (o12:q14_3 g l x fun x53=>inI ((x53:Int) + 1))
 (o13:q14_3 g l x fun x53=>(x53:Int) + 1=(↑(x53 + 1):Int))
 (o14:q14_3 g l x fun x53=>max (firstTo g l x53) (Thg.at_ (thg g (l.getD x53 0).toNat))=firstTo g l (x53 + 1))
 (o15:q14_3 g l x fun x53=>x53 + 1<=l.length)
 (o16:q14_3 g l x fun x53=>l.length - (x53 + 1) < l.length - x53)
 (o17:q14_4 g l x fun x53=>inI (100 - firstTo g l x53))
 (o18:q14_4 g l x fun x53=>0=(↑0:Int))
 (o19:q14_4 g l x fun x53=>0<=l.length)
 (o20:q14_5 g l x fun x53 x55=>0<=(x55:Int))
 (o21:q14_5 g l x fun x53 x55=>(x55:Int) < (↑(l.length):Int))
 (o22:q14_5 g l x fun x53 x55=>okH g=true)
 (o23:q14_5 g l x fun x53 x55=>0<=l.getD x55 0)
 (o24:q14_5 g l x fun x53 x55=>l.getD x55 0 < (↑((Hs.things g).length):Int))
 (o25:q14_5 g l x fun x53 x55=>within (Shn.ch x) 0 2=true)
 (o26:q14_5 g l x fun x53 x55=>(!bif !decide (sinceE g (Shn.ch x) (l.getD x55 0).toNat=0) then !decide (sinceE g (Shn.ch x) (l.getD x55 0).toNat=3) else false)=true->decide (sinceE g (Shn.ch x) (l.getD x55 0).toNat=0)=true->((!bif !decide (sinceE g (Shn.ch x) (l.getD x55 0).toNat=0) then !decide (sinceE g (Shn.ch x) (l.getD x55 0).toNat=3) else false) && decide (sinceE g (Shn.ch x) (l.getD x55 0).toNat=0))=true)
 (o27:q14_5 g l x fun x53 x55=>(bif !decide (sinceE g (Shn.ch x) (l.getD x55 0).toNat=0) then !decide (sinceE g (Shn.ch x) (l.getD x55 0).toNat=3) else false)=false->(!bif !decide (sinceE g (Shn.ch x) (l.getD x55 0).toNat=0) then !decide (sinceE g (Shn.ch x) (l.getD x55 0).toNat=3) else false)=true)
 (o28:q14_5 g l x fun x53 x55=>(bif bif !decide (sinceE g (Shn.ch x) (l.getD x55 0).toNat=0) then !decide (sinceE g (Shn.ch x) (l.getD x55 0).toNat=3) else false then true else bif decide (sinceE g (Shn.ch x) (l.getD x55 0).toNat=0) then !within (sinceR g (Shn.ch x) (l.getD x55 0).toNat) 0 99 else false)=false)
 (o29:q14_5 g l x fun x53 x55=>(!decide (sinceE g (Shn.ch x) (l.getD x55 0).toNat=0))->100=sinceV g (Shn.ch x) (l.getD x55 0).toNat)
 (o30:q14_5 g l x fun x53 x55=>(!decide (sinceE g (Shn.ch x) (l.getD x55 0).toNat=0))=false->sinceR g (Shn.ch x) (l.getD x55 0).toNat=sinceV g (Shn.ch x) (l.getD x55 0).toNat)
 (o31:q14_5 g l x fun x53 x55=>inI (sinceV g (Shn.ch x) (l.getD x55 0).toNat - firstTo g l x53))
 (o32:q14_5 g l x fun x53 x55=>x55 + 1<=65536)
 (o33:q14_5 g l x fun x53 x55=>inI ((x55:Int) + 1))
 (o34:q14_5 g l x fun x53 x55=>(x55:Int) + 1=(↑(x55 + 1):Int))
 (o35:q14_5 g l x fun x53 x55 => ∀ (i81:Nat),i81 < x55 + 1->catF x55 (fun (k:Nat)=>cSpan ((chT g l (Shn.ch x) x55).getD k default)) (fun (j:Nat)=>List.getD [[iv (min (min 30 (100 - firstTo g l x53)) (max 0 (sinceV g (Shn.ch x) (l.getD x55 0).toNat - firstTo g l x53))),iv (min (min 30 (100 - firstTo g l x53)) (max 0 (sinceV g (Shn.ch x) (l.getD x55 0).toNat - firstTo g l x53)))]] j (TI.za ti37)) i81=cSpan ((chT g l (Shn.ch x) (x55 + 1)).getD i81 default))
 (o36:q14_5 g l x fun x53 x55=>x55 + 1<=l.length)
 (o37:q14_5 g l x fun x53 x55=>l.length - (x55 + 1) < l.length - x55)
 (o38:q14_6 g l x fun x53 x55=>x55=(chT g l (Shn.ch x) l.length).length)
 (o39:q14_6 g l x fun x53 x55 => ∀ (i83:Nat),i83 < (chT g l (Shn.ch x) l.length).length->cSpan ((chT g l (Shn.ch x) x55).getD i83 default) = [iv ((chT g l (Shn.ch x) l.length).getD i83 default).lo,iv ((chT g l (Shn.ch x) l.length).getD i83 default).hi])
 (o40:q14_6 g l x fun x53 x55=>(↑(l.length):Int)=(runS g l x).plates)
 (o41:q14_6 g l x fun x53 x55=>min 30 (100 - firstTo g l x53)=(runS g l x).last)
 (o42:q14_6 g l x fun x53 x55=>1=(runS g l x).machines.length)
 (o43:q14_6 g l x fun x53 x55 => ∀ (i85:Nat),i85 < (runS g l x).machines.length->List.getD [[AV.sl 2 (chT g l (Shn.ch x) l.length).length fun (i:Nat)=>cSpan ((chT g l (Shn.ch x) l.length).getD i default),iv (Shn.rate x)]] i85 (TI.za ti42)=cMach (mach (runS g l x) i85))
 (o44:q14_6 g l x fun x53 x55=>(runS g l x).found.length=0)
 (o45:q14_6 g l x fun x53 x55=>fits (runS g l x))
 (o46:q14_6 g l x fun x53 x55=>(!decide (check (runS g l x)=0))=false)
 (o47:q14_6 g l x fun x53 x55=>0=(↑0:Int))
 (o48:q14_6 g l x fun x53 x55=>0=minT g l (Shn.ch x) 0)
 (o49:q14_6 g l x fun x53 x55=>0<=(lastT g l).toNat)
 (o50:q14_7 g l x fun x53 x55 x88=>0 + l.length<=65536)
 (o51:q14_7 g l x fun x53 x55 x88=>inI (firstTo g l x53 + (x88:Int)))
 (o52:q14_7 g l x fun x53 x55 x88=>0 + l.length=l.length)
 (o53:q14_7 g l x fun x53 x55 x88=>firstTo g l x53 + (x88:Int)=firstV g l + (x88:Int))
 (o54:q14_7 g l x fun x53 x55 x88=>okH g=true)
 (o55:q14_7 g l x fun x53 x55 x88=>plates7 g l (firstV g l + (x88:Int))=true)
 (o56:q14_7 g l x fun x53 x55 x88=>within (firstV g l + (x88:Int)) 0 99=true)
 (o57:q14_7 g l x fun x53 x55 x88=>decide (3 < (↑((mixed7 g l (firstV g l + (x88:Int))).length):Int))=false)
 (o58:q14_7 g l x fun x53 x55 x88=>(mixed7 g l (firstV g l + (x88:Int))).length<=1125899906842624)
 (o59:q14_8 g l x fun x53 x55 x88=>inI (minT g l (Shn.ch x) x88 + 1))
 (o60:q14_8 g l x fun x53 x55 x88=>inI ((x88:Int) + 1))
 (o61:q14_8 g l x fun x53 x55 x88=>(x88:Int) + 1=(↑(x88 + 1):Int))
 (o62:q14_8 g l x fun x53 x55 x88=>minT g l (Shn.ch x) x88 + 1=minT g l (Shn.ch x) (x88 + 1))
 (o63:q14_8 g l x fun x53 x55 x88=>x88 + 1<=(lastT g l).toNat)
 (o64:q14_8 g l x fun x53 x55 x88=>(lastT g l).toNat - (x88 + 1) < (lastT g l).toNat - x88)
 (o65:q14_9 g l x fun x53 x55 x88=>inI ((x88:Int) + 1))
 (o66:q14_9 g l x fun x53 x55 x88=>(x88:Int) + 1=(↑(x88 + 1):Int))
 (o67:q14_9 g l x fun x53 x55 x88=>minT g l (Shn.ch x) x88=minT g l (Shn.ch x) (x88 + 1))
 (o68:q14_9 g l x fun x53 x55 x88=>x88 + 1<=(lastT g l).toNat)
 (o69:q14_9 g l x fun x53 x55 x88=>(lastT g l).toNat - (x88 + 1) < (lastT g l).toNat - x88)
 (o70:q14_10 g l x fun x53 x55 x88=>fits (runS g l x))
 (o71:q14_10 g l x fun x53 x55 x88=>fits (runS g l x))
 (o72:q14_10 g l x fun x53 x55 x88=>decide (0 < minT g l (Shn.ch x) x88)=true->1=wantT g l (Shn.ch x))
 (o73:q14_10 g l x fun x53 x55 x88=>decide (0 < minT g l (Shn.ch x) x88)=false->2=wantT g l (Shn.ch x))
 (o74:q14_10 g l x fun x53 x55 x88=>(bif decide (openE (runS g l x) true=0) then decide (openE (runS g l x) (isMachine (runS g l x) 0)=0) else false)=true->inI (Shn.rate x * minT g l (Shn.ch x) x88))
 (o75:q14_10 g l x fun x53 x55 x88=>(bif decide (openE (runS g l x) true=0) then decide (openE (runS g l x) (isMachine (runS g l x) 0)=0) else false)=true->inI (Shn.rate x * minT g l (Shn.ch x) x88))
 (o76:q14_10 g l x fun x53 x55 x88=>(bif bif bif bif decide (openE (runS g l x) true=0) then decide (openE (runS g l x) (isMachine (runS g l x) 0)=0) else false then decide ((mixesS (runS g l x)).lo=Shn.rate x * minT g l (Shn.ch x) x88) && (decide ((mixesS (runS g l x)).hi=Shn.rate x * minT g l (Shn.ch x) x88) && true) else false then decide (mixedS (runS g l x) 0=wantT g l (Shn.ch x)) else false then true else false)=true) :
  Triple Try.prog 14 (s14 g l x):=by
 refine triple_of Try.func14 rfl Try.call14 T0_ok _ rfl rfl rfl rfl (Nat.le_of_ble_eq_true (by kernel_rfl)) (fun _ _ _ _ h=>h) ?_
 intro hp C hC _ hE
 obtain ⟨P,w0,E0,av,hA⟩:=C
 subst hC
 refine swp_seq ?_
 refine sQ (kt:=[1,3,5]) (kh:=[0,8]) (q:=tn 3) (st':=ASt.mk [(1,aInts l),(3,.ptr 0 []),(5,.ptr 8 [])] [(0,.cells 80 (cHs g)),(8,.cells 82 (cShn x))] 24) (tp 3) ?_
 refine swp_seq (swp_seq ?_)
 refine sC (cs:=[(1,CallSpec.eq (s56 g) [true]),(4,CallSpec.eq (s57 g) [true]),(10,CallSpec.eq (s58 (Shn.ch x)) [true]),(16,CallSpec.eq (s24 (Shn.rate x) 0 9) [true,true,true]),(22,CallSpec.eq (s24 (↑(l.length):Int) 1 3) [true,true,true]),(28,CallSpec.eq (s59 g l 99) [true,false,true])]) (kt:=[1,3,5,54]) (kh:=[0,8]) (q:=True/\((zE (AV.agg (cHs g))/\True)/\Triple Try.prog 56 (s56 g)/\fitsH g/\True /\ ∀ (i0:Env),True)/\True/\((!far7 g)=true->(True/\True)/\True)/\((!far7 g)=true->(True/\((!far7 g)=true->(!far7 g)=true)/\True)/\(zE (AV.agg (cHs g))/\True)/\Triple Try.prog 57 (s57 g)/\fitsH g/\True /\ ∀ (i4:Env),True)/\((!far7 g)=true->(((!far7 g)=true->(!far7 g)=true)/\True/\True)/\True)/\((far7 g=true->True)/\(far7 g=false->(!far7 g)=true))/\True/\((!bif far7 g then true else !decide (check7 g=0))=true->(True/\True)/\True)/\((!bif far7 g then true else !decide (check7 g=0))=true->(((!bif far7 g then true else !decide (check7 g=0))=true->(!bif far7 g then true else !decide (check7 g=0))=true)/\True)/\True)/\((!bif far7 g then true else !decide (check7 g=0))=true->(True/\((!bif far7 g then true else !decide (check7 g=0))=true->(!bif far7 g then true else !decide (check7 g=0))=true)/\True)/\(zE (iv (Shn.ch x))/\True)/\Triple Try.prog 58 (s58 (Shn.ch x))/\True/\True /\ ∀ (i14:Env),True)/\((!bif far7 g then true else !decide (check7 g=0))=true->(((!bif far7 g then true else !decide (check7 g=0))=true->(!bif far7 g then true else !decide (check7 g=0))=true)/\True)/\True)/\(((bif far7 g then true else !decide (check7 g=0))=true->True)/\((bif far7 g then true else !decide (check7 g=0))=false->(!bif far7 g then true else !decide (check7 g=0))=true))/\True/\((!bif bif far7 g then true else !decide (check7 g=0) then true else !within (Shn.ch x) 0 2)=true->(True/\True)/\True)/\((!bif bif far7 g then true else !decide (check7 g=0) then true else !within (Shn.ch x) 0 2)=true->(((!bif bif far7 g then true else !decide (check7 g=0) then true else !within (Shn.ch x) 0 2)=true->(!bif bif far7 g then true else !decide (check7 g=0) then true else !within (Shn.ch x) 0 2)=true)/\True)/\True)/\((!bif bif far7 g then true else !decide (check7 g=0) then true else !within (Shn.ch x) 0 2)=true->(True/\((!bif bif far7 g then true else !decide (check7 g=0) then true else !within (Shn.ch x) 0 2)=true->(!bif bif far7 g then true else !decide (check7 g=0) then true else !within (Shn.ch x) 0 2)=true)/\True/\True/\True)/\(zE (iv (Shn.rate x))/\iv 0=iv 0/\iv 9=iv 9/\True)/\Triple Try.prog 24 (s24 (Shn.rate x) 0 9)/\True/\True /\ ∀ (i24:Env),True)/\((!bif bif far7 g then true else !decide (check7 g=0) then true else !within (Shn.ch x) 0 2)=true->(((!bif bif far7 g then true else !decide (check7 g=0) then true else !within (Shn.ch x) 0 2)=true->(!bif bif far7 g then true else !decide (check7 g=0) then true else !within (Shn.ch x) 0 2)=true)/\True)/\True)/\(((bif bif far7 g then true else !decide (check7 g=0) then true else !within (Shn.ch x) 0 2)=true->True)/\((bif bif far7 g then true else !decide (check7 g=0) then true else !within (Shn.ch x) 0 2)=false->(!bif bif far7 g then true else !decide (check7 g=0) then true else !within (Shn.ch x) 0 2)=true))/\True/\((!bif bif bif far7 g then true else !decide (check7 g=0) then true else !within (Shn.ch x) 0 2 then true else !within (Shn.rate x) 0 9)=true->(True/\True)/\True)/\((!bif bif bif far7 g then true else !decide (check7 g=0) then true else !within (Shn.ch x) 0 2 then true else !within (Shn.rate x) 0 9)=true->(((!bif bif bif far7 g then true else !decide (check7 g=0) then true else !within (Shn.ch x) 0 2 then true else !within (Shn.rate x) 0 9)=true->(!bif bif bif far7 g then true else !decide (check7 g=0) then true else !within (Shn.ch x) 0 2 then true else !within (Shn.rate x) 0 9)=true)/\True)/\True)/\((!bif bif bif far7 g then true else !decide (check7 g=0) then true else !within (Shn.ch x) 0 2 then true else !within (Shn.rate x) 0 9)=true->(True/\((!bif bif bif far7 g then true else !decide (check7 g=0) then true else !within (Shn.ch x) 0 2 then true else !within (Shn.rate x) 0 9)=true->(!bif bif bif far7 g then true else !decide (check7 g=0) then true else !within (Shn.ch x) 0 2 then true else !within (Shn.rate x) 0 9)=true)/\True/\True/\True)/\(zE (iv (↑(l.length):Int))/\iv 1=iv 1/\iv 3=iv 3/\True)/\Triple Try.prog 24 (s24 (↑(l.length):Int) 1 3)/\True/\True /\ ∀ (i34:Env),True)/\((!bif bif bif far7 g then true else !decide (check7 g=0) then true else !within (Shn.ch x) 0 2 then true else !within (Shn.rate x) 0 9)=true->(((!bif bif bif far7 g then true else !decide (check7 g=0) then true else !within (Shn.ch x) 0 2 then true else !within (Shn.rate x) 0 9)=true->(!bif bif bif far7 g then true else !decide (check7 g=0) then true else !within (Shn.ch x) 0 2 then true else !within (Shn.rate x) 0 9)=true)/\True)/\True)/\(((bif bif bif far7 g then true else !decide (check7 g=0) then true else !within (Shn.ch x) 0 2 then true else !within (Shn.rate x) 0 9)=true->True)/\((bif bif bif far7 g then true else !decide (check7 g=0) then true else !within (Shn.ch x) 0 2 then true else !within (Shn.rate x) 0 9)=false->(!bif bif bif far7 g then true else !decide (check7 g=0) then true else !within (Shn.ch x) 0 2 then true else !within (Shn.rate x) 0 9)=true))/\True/\((!bif bif bif bif far7 g then true else !decide (check7 g=0) then true else !within (Shn.ch x) 0 2 then true else !within (Shn.rate x) 0 9 then true else !within (↑(l.length):Int) 1 3)=true->(True/\True)/\True)/\((!bif bif bif bif far7 g then true else !decide (check7 g=0) then true else !within (Shn.ch x) 0 2 then true else !within (Shn.rate x) 0 9 then true else !within (↑(l.length):Int) 1 3)=true->(True/\True)/\True)/\((!bif bif bif bif far7 g then true else !decide (check7 g=0) then true else !within (Shn.ch x) 0 2 then true else !within (Shn.rate x) 0 9 then true else !within (↑(l.length):Int) 1 3)=true->(True/\((!bif bif bif bif far7 g then true else !decide (check7 g=0) then true else !within (Shn.ch x) 0 2 then true else !within (Shn.rate x) 0 9 then true else !within (↑(l.length):Int) 1 3)=true->(!bif bif bif bif far7 g then true else !decide (check7 g=0) then true else !within (Shn.ch x) 0 2 then true else !within (Shn.rate x) 0 9 then true else !within (↑(l.length):Int) 1 3)=true)/\((!bif bif bif bif far7 g then true else !decide (check7 g=0) then true else !within (Shn.ch x) 0 2 then true else !within (Shn.rate x) 0 9 then true else !within (↑(l.length):Int) 1 3)=true->(!bif bif bif bif far7 g then true else !decide (check7 g=0) then true else !within (Shn.ch x) 0 2 then true else !within (Shn.rate x) 0 9 then true else !within (↑(l.length):Int) 1 3)=true)/\True/\True)/\(zE (AV.agg (cHs g))/\(1=1/\l.length=l.length /\ ∀ (i44:Nat),i44 < l.length -> [iv (l.getD i44 0)] = [iv (l.getD i44 0)])/\iv 99=iv 99/\True)/\Triple Try.prog 59 (s59 g l 99)/\(fitsH g/\l.length<=1125899906842624)/\True /\ ∀ (i46:Env),True)/\((!bif bif bif bif far7 g then true else !decide (check7 g=0) then true else !within (Shn.ch x) 0 2 then true else !within (Shn.rate x) 0 9 then true else !within (↑(l.length):Int) 1 3)=true->(((!bif bif bif bif far7 g then true else !decide (check7 g=0) then true else !within (Shn.ch x) 0 2 then true else !within (Shn.rate x) 0 9 then true else !within (↑(l.length):Int) 1 3)=true->(!bif bif bif bif far7 g then true else !decide (check7 g=0) then true else !within (Shn.ch x) 0 2 then true else !within (Shn.rate x) 0 9 then true else !within (↑(l.length):Int) 1 3)=true)/\True)/\True)/\(((bif bif bif bif far7 g then true else !decide (check7 g=0) then true else !within (Shn.ch x) 0 2 then true else !within (Shn.rate x) 0 9 then true else !within (↑(l.length):Int) 1 3)=true->True)/\((bif bif bif bif far7 g then true else !decide (check7 g=0) then true else !within (Shn.ch x) 0 2 then true else !within (Shn.rate x) 0 9 then true else !within (↑(l.length):Int) 1 3)=false->(!bif bif bif bif far7 g then true else !decide (check7 g=0) then true else !within (Shn.ch x) 0 2 then true else !within (Shn.rate x) 0 9 then true else !within (↑(l.length):Int) 1 3)=true))/\True) (st':=ASt.mk [(1,aInts l),(3,.ptr 0 []),(5,.ptr 8 []),(54,bv (bif bif bif bif bif far7 g then true else !decide (check7 g=0) then true else !within (Shn.ch x) 0 2 then true else !within (Shn.rate x) 0 9 then true else !within (↑(l.length):Int) 1 3 then true else !plates7 g l 99))] [(0,.cells 80 (cHs g)),(8,.cells 82 (cShn x))] 272) ⟨tv,⟨⟨rfl,tv⟩,(t56 (g)),hp.1,tv,(fun i0=>tv)⟩,tv,(fun h1=>⟨⟨tv,tv⟩,tv⟩),(fun h2=>⟨⟨tv,(fun h3=>h2),tv⟩,⟨rfl,tv⟩,(t57 (g)),hp.1,tv,(fun i4=>tv)⟩),(fun h5=>⟨⟨(fun h6=>h5),tv,tv⟩,tv⟩),⟨(fun h7=>tv),(fun h8=>(o0 hp h8))⟩,tv,(fun h9=>⟨⟨tv,tv⟩,tv⟩),(fun h10=>⟨⟨(fun h11=>h10),tv⟩,tv⟩),(fun h12=>⟨⟨tv,(fun h13=>h12),tv⟩,⟨rfl,tv⟩,(t58 (Shn.ch x)),tv,tv,(fun i14=>tv)⟩),(fun h15=>⟨⟨(fun h16=>h15),tv⟩,tv⟩),⟨(fun h17=>tv),(fun h18=>(o1 hp h18))⟩,tv,(fun h19=>⟨⟨tv,tv⟩,tv⟩),(fun h20=>⟨⟨(fun h21=>h20),tv⟩,tv⟩),(fun h22=>⟨⟨tv,(fun h23=>h22),tv,tv,tv⟩,⟨rfl,rfl,rfl,tv⟩,(t24 (Shn.rate x) (0) (9)),tv,tv,(fun i24=>tv)⟩),(fun h25=>⟨⟨(fun h26=>h25),tv⟩,tv⟩),⟨(fun h27=>tv),(fun h28=>(o2 hp h28))⟩,tv,(fun h29=>⟨⟨tv,tv⟩,tv⟩),(fun h30=>⟨⟨(fun h31=>h30),tv⟩,tv⟩),(fun h32=>⟨⟨tv,(fun h33=>h32),tv,tv,tv⟩,⟨rfl,rfl,rfl,tv⟩,(t24 ((↑(l.length):Int)) (1) (3)),tv,tv,(fun i34=>tv)⟩),(fun h35=>⟨⟨(fun h36=>h35),tv⟩,tv⟩),⟨(fun h37=>tv),(fun h38=>(o3 hp h38))⟩,tv,(fun h39=>⟨⟨tv,tv⟩,tv⟩),(fun h40=>⟨⟨tv,tv⟩,tv⟩),(fun h41=>⟨⟨tv,(fun h42=>h41),(fun h43=>h41),tv,tv⟩,⟨rfl,⟨rfl,rfl,(fun i44=>(fun h45=>rfl))⟩,rfl,tv⟩,(t59 (g) (l) (99)),⟨hp.1,hp.2⟩,tv,(fun i46=>tv)⟩),(fun h47=>⟨⟨(fun h48=>h47),tv⟩,tv⟩),⟨(fun h49=>tv),(fun h50=>(o4 hp h50))⟩,tv⟩ ?_
 refine swp_cond (bif bif bif bif bif far7 g then true else !decide (check7 g=0) then true else !within (Shn.ch x) 0 2 then true else !within (Shn.rate x) 0 9 then true else !within (↑(l.length):Int) 1 3 then true else !plates7 g l 99) (by kernel_rfl) (fun h51 => ?_) (fun h51 => ?_)
 ·refine swp_seq ?_
  refine sC (cs:=[(0,CallSpec.eq s60 [])]) (kt:=[6]) (kh:=[]) (q:=(True/\Triple Try.prog 60 s60/\True/\True /\ ∀ (i52:Env),True)/\True/\True) (st':=ASt.mk [(6,bv true)] [] 288) ⟨⟨tv,(t60),tv,tv,(fun i52=>tv)⟩,tv,tv⟩ ?_
  refine swp_ret ?_
  exact rQ [] ((True/\True)/\(zM (bv true))/\T3) ⟨⟨tv,tv⟩,⟨rfl,rfl⟩,rfl,rfl,rfl⟩
 ·refine swp_skip (swp_seq ?_)
  refine sQ (kt:=[1,3,5,7]) (kh:=[0,8]) (q:=True/\True) (st':=ASt.mk [(1,aInts l),(3,.ptr 0 []),(5,.ptr 8 []),(7,iv 0)] [(0,.cells 80 (cHs g)),(8,.cells 82 (cShn x))] 280) ⟨tv,tv⟩ ?_
  refine swp_seq (swp_seq ?_)
  refine sQ (kt:=[1,3,5,7,8]) (kh:=[0,8]) (q:=True/\True) (st':=ASt.mk [(1,aInts l),(3,.ptr 0 []),(5,.ptr 8 []),(7,iv 0),(8,iv 0)] [(0,.cells 80 (cHs g)),(8,.cells 82 (cShn x))] 288) ⟨tv,tv⟩ ?_
  refine swp_block ?_
  refine swp_loopA (z14_3 g l x) (eQ hE [] [(0,.same 0),(8,.same 8)] [1] [0,8] (((zT (aInts l))/\(zP 0)/\(zP 8)/\(zN (iv 0) (iv (↑0:Int)))/\(zN (iv 0) (iv (firstTo g l 0)))/\True)/\((zT (OB.cells 80 (cHs g)))/\(zT (OB.cells 82 (cShn x)))/\True)/\T2) ⟨⟨⟨rfl,rfl⟩,⟨rfl,rfl⟩,⟨rfl,rfl⟩,⟨(congrArg iv (o5 hp h51)),rfl⟩,⟨(congrArg iv (o6 hp h51)),rfl⟩,tv⟩,⟨⟨rfl,rfl⟩,⟨rfl,rfl⟩,tv⟩,rfl,rfl⟩) (o7 hp h51) (fun (x53:Nat) hx53 => ?_)
  refine swp_seq (swp_seq ?_)
  refine sQ (kt:=[1,3,5,8,7,59]) (kh:=[0,8]) (q:=tn 4) (st':=ASt.mk [(1,aInts l),(3,.ptr 0 []),(5,.ptr 8 []),(8,iv (x53:Int)),(7,iv (firstTo g l x53)),(59,bv (decide ((x53:Int) < (↑(l.length):Int))))] [(0,.cells 80 (cHs g)),(8,.cells 82 (cShn x))] 10320) (tp 4) ?_
  refine swp_cond (decide ((x53:Int) < (↑(l.length):Int))) (by kernel_rfl) (fun h54 => ?_) (fun h54 => ?_)
  ·refine swp_skip (swp_seq (swp_block ?_))
   refine sQ (kt:=[1,3,5,8,7]) (kh:=[0,8]) (q:=True/\True/\True/\True/\True/\(0<=(x53:Int)/\(x53:Int) < (↑(l.length):Int))/\True/\(0<=l.getD x53 0/\l.getD x53 0 < (↑((Hs.things g).length):Int))/\tn 4) (st':=ASt.mk [(1,aInts l),(3,.ptr 0 []),(5,.ptr 8 []),(8,iv (x53:Int)),(7,iv (max (firstTo g l x53) (Thg.at_ (thg g (l.getD x53 0).toNat))))] [(0,.cells 80 (cHs g)),(8,.cells 82 (cShn x))] 10416) ⟨tv,tv,tv,tv,tv,⟨(o8 hp h51 x53 hx53 h54),(o9 hp h51 x53 hx53 h54)⟩,tv,⟨(o10 hp h51 x53 hx53 h54),(o11 hp h51 x53 hx53 h54)⟩,tp 4⟩ ?_
   refine sQ (kt:=[1,3,5,8,7]) (kh:=[0,8]) (q:=True/\inI ((x53:Int) + 1)/\True/\True) (st':=ASt.mk [(1,aInts l),(3,.ptr 0 []),(5,.ptr 8 []),(8,iv ((x53:Int) + 1)),(7,iv (max (firstTo g l x53) (Thg.at_ (thg g (l.getD x53 0).toNat))))] [(0,.cells 80 (cHs g)),(8,.cells 82 (cShn x))] 10440) ⟨tv,(o12 hp h51 x53 hx53 h54),tv,tv⟩ ?_
   exact loop_next (z14_3 g l x) x53 (eQ hE [] [(0,.same 0),(8,.same 8)] [1] [0,8] (((zT (aInts l))/\(zP 0)/\(zP 8)/\(zN (iv ((x53:Int) + 1)) (iv (↑(x53 + 1):Int)))/\(zN (iv (max (firstTo g l x53) (Thg.at_ (thg g (l.getD x53 0).toNat)))) (iv (firstTo g l (x53 + 1))))/\True)/\((zT (OB.cells 80 (cHs g)))/\(zT (OB.cells 82 (cShn x)))/\True)/\T2) ⟨⟨⟨rfl,rfl⟩,⟨rfl,rfl⟩,⟨rfl,rfl⟩,⟨(congrArg iv (o13 hp h51 x53 hx53 h54)),rfl⟩,⟨(congrArg iv (o14 hp h51 x53 hx53 h54)),rfl⟩,tv⟩,⟨⟨rfl,rfl⟩,⟨rfl,rfl⟩,tv⟩,rfl,rfl⟩) (o15 hp h51 x53 hx53 h54) (o16 hp h51 x53 hx53 h54)
  ·refine swp_exit (swp_seq ?_)
   refine sQ (kt:=[1,3,5,7,9]) (kh:=[0,8,10368]) (q:=True/\True/\True/\inI (100 - firstTo g l x53)/\tn 4) (st':=ASt.mk [(1,aInts l),(3,.ptr 0 []),(5,.ptr 8 []),(7,iv (firstTo g l x53)),(9,.ptr 10368 [])] [(0,.cells 80 (cHs g)),(8,.cells 82 (cShn x)),(10368,.cells 25 [iv (↑(l.length):Int),iv (min 30 (100 - firstTo g l x53)),nilv,nilv])] 10384) ⟨tv,tv,tv,(o17 hp h51 x53 hx53 h54),tp 4⟩ ?_
   refine swp_seq ?_
   refine sQ (kt:=[1,3,5,7,9,10]) (kh:=[0,8,10368,10408]) (q:=tn 5) (st':=ASt.mk [(1,aInts l),(3,.ptr 0 []),(5,.ptr 8 []),(7,iv (firstTo g l x53)),(9,.ptr 10368 []),(10,.ptr 10408 [])] [(0,.cells 80 (cHs g)),(8,.cells 82 (cShn x)),(10368,.cells 25 [iv (↑(l.length):Int),iv (min 30 (100 - firstTo g l x53)),nilv,nilv]),(10408,.cells 42 [nilv,iv (Shn.rate x)])] 10424) (tp 5) ?_
   refine swp_seq (swp_seq ?_)
   refine sQ (kt:=[1,3,5,7,9,10,11]) (kh:=[0,8,10368,10408]) (q:=True/\True) (st':=ASt.mk [(1,aInts l),(3,.ptr 0 []),(5,.ptr 8 []),(7,iv (firstTo g l x53)),(9,.ptr 10368 []),(10,.ptr 10408 []),(11,iv 0)] [(0,.cells 80 (cHs g)),(8,.cells 82 (cShn x)),(10368,.cells 25 [iv (↑(l.length):Int),iv (min 30 (100 - firstTo g l x53)),nilv,nilv]),(10408,.cells 42 [nilv,iv (Shn.rate x)])] 10432) ⟨tv,tv⟩ ?_
   refine swp_block ?_
   refine swp_loopA (z14_1 g l x x53) (eQ hE [] [(0,.same 0),(8,.same 8),(10368,.same 10368),(5000,.same 10408),(5001,.nil)] [1,7] [0,8,10368] (((zT (aInts l))/\(zP 0)/\(zP 8)/\(zT (iv (firstTo g l x53)))/\(zP 10368)/\(zN (iv 0) (iv (↑0:Int)))/\(zP 10408)/\True)/\((zT (OB.cells 80 (cHs g)))/\(zT (OB.cells 82 (cShn x)))/\(zT (OB.cells 25 [iv (↑(l.length):Int),iv (min 30 (100 - firstTo g l x53)),nilv,nilv]))/\(42=42/\(zE (some Src.nil)/\(zM (iv (Shn.rate x)))/\True)/\true=true)/\0=0/\True)/\T2) ⟨⟨⟨rfl,rfl⟩,⟨rfl,rfl⟩,⟨rfl,rfl⟩,⟨rfl,rfl⟩,⟨rfl,rfl⟩,⟨(congrArg iv (o18 hp h51 x53 hx53 h54)),rfl⟩,⟨rfl,rfl⟩,tv⟩,⟨⟨rfl,rfl⟩,⟨rfl,rfl⟩,⟨rfl,rfl⟩,⟨rfl,⟨rfl,⟨rfl,rfl⟩,tv⟩,rfl⟩,rfl,tv⟩,rfl,rfl⟩) (o19 hp h51 x53 hx53 h54) (fun (x55:Nat) hx55 => ?_)
   refine swp_seq (swp_seq ?_)
   refine sQ (kt:=[1,3,5,7,9,11,10,85]) (kh:=[0,8,10368,5000,5001]) (q:=tn 4) (st':=ASt.mk [(1,aInts l),(3,.ptr 0 []),(5,.ptr 8 []),(7,iv (firstTo g l x53)),(9,.ptr 10368 []),(11,iv (x55:Int)),(10,.ptr 5000 []),(85,bv (decide ((x55:Int) < (↑(l.length):Int))))] [(0,.cells 80 (cHs g)),(8,.cells 82 (cShn x)),(10368,.cells 25 [iv (↑(l.length):Int),iv (min 30 (100 - firstTo g l x53)),nilv,nilv]),(5000,.cells 42 [.vec 5001,iv (Shn.rate x)]),(5001,.vec 37 2 x55 fun (k:Nat)=>cSpan ((chT g l (Shn.ch x) x55).getD k default))] 20464) (tp 4) ?_
   refine swp_cond (decide ((x55:Int) < (↑(l.length):Int))) (by kernel_rfl) (fun h56 => ?_) (fun h56 => ?_)
   ·refine swp_skip (swp_seq (swp_block (swp_seq ?_)))
    refine sC (cs:=[(7,CallSpec.eq (s61 g (l.getD x55 0) (Shn.ch x)) [true,true,true])]) (kt:=[1,3,5,7,9,11,10,12,13]) (kh:=[0,8,10368,5000,5001]) (q:=True/\True/\True/\(0<=(x55:Int)/\(x55:Int) < (↑(l.length):Int))/\True/\True/\True/\((zE (AV.agg (cHs g))/\zE (iv (l.getD x55 0))/\zE (iv (Shn.ch x))/\True)/\Triple Try.prog 61 (s61 g (l.getD x55 0) (Shn.ch x))/\(okH g=true/\(0<=l.getD x55 0/\l.getD x55 0 < (↑((Hs.things g).length):Int))/\within (Shn.ch x) 0 2=true)/\True /\ ∀ (i57:Env),True)/\tn 5) (st':=ASt.mk [(1,aInts l),(3,.ptr 0 []),(5,.ptr 8 []),(7,iv (firstTo g l x53)),(9,.ptr 10368 []),(11,iv (x55:Int)),(10,.ptr 5000 []),(12,iv (sinceR g (Shn.ch x) (l.getD x55 0).toNat)),(13,iv (sinceE g (Shn.ch x) (l.getD x55 0).toNat))] [(0,.cells 80 (cHs g)),(8,.cells 82 (cShn x)),(10368,.cells 25 [iv (↑(l.length):Int),iv (min 30 (100 - firstTo g l x53)),nilv,nilv]),(5000,.cells 42 [.vec 5001,iv (Shn.rate x)]),(5001,.vec 37 2 x55 fun (k:Nat)=>cSpan ((chT g l (Shn.ch x) x55).getD k default))] 20568) ⟨tv,tv,tv,⟨(o20 hp h51 x53 hx53 h54 x55 hx55 h56),(o21 hp h51 x53 hx53 h54 x55 hx55 h56)⟩,tv,tv,tv,⟨⟨rfl,rfl,rfl,tv⟩,(t61 (g) (l.getD x55 0) (Shn.ch x)),⟨(o22 hp h51 x53 hx53 h54 x55 hx55 h56),⟨(o23 hp h51 x53 hx53 h54 x55 hx55 h56),(o24 hp h51 x53 hx53 h54 x55 hx55 h56)⟩,(o25 hp h51 x53 hx53 h54 x55 hx55 h56)⟩,tv,(fun i57=>tv)⟩,tp 5⟩ ?_
    refine swp_seq (swp_seq ?_)
    refine sC (cs:=[(11,CallSpec.eq (s62 (sinceR g (Shn.ch x) (l.getD x55 0).toNat)) [true])]) (kt:=[1,3,5,7,9,11,10,12,13,113]) (kh:=[0,8,10368,5000,5001]) (q:=True/\True/\True/\((!decide (sinceE g (Shn.ch x) (l.getD x55 0).toNat=0))->(True/\True)/\True)/\((!decide (sinceE g (Shn.ch x) (l.getD x55 0).toNat=0))->(((!decide (sinceE g (Shn.ch x) (l.getD x55 0).toNat=0))->(!decide (sinceE g (Shn.ch x) (l.getD x55 0).toNat=0))=true)/\True/\True)/\True)/\(((!decide (sinceE g (Shn.ch x) (l.getD x55 0).toNat=0))->(!decide (sinceE g (Shn.ch x) (l.getD x55 0).toNat=0))=true)/\((!decide (sinceE g (Shn.ch x) (l.getD x55 0).toNat=0))=false->True))/\True/\((!bif !decide (sinceE g (Shn.ch x) (l.getD x55 0).toNat=0) then !decide (sinceE g (Shn.ch x) (l.getD x55 0).toNat=3) else false)=true->(True/\True)/\True)/\((!bif !decide (sinceE g (Shn.ch x) (l.getD x55 0).toNat=0) then !decide (sinceE g (Shn.ch x) (l.getD x55 0).toNat=3) else false)=true->(((!bif !decide (sinceE g (Shn.ch x) (l.getD x55 0).toNat=0) then !decide (sinceE g (Shn.ch x) (l.getD x55 0).toNat=3) else false)=true->(!bif !decide (sinceE g (Shn.ch x) (l.getD x55 0).toNat=0) then !decide (sinceE g (Shn.ch x) (l.getD x55 0).toNat=3) else false)=true)/\True/\True)/\True)/\((!bif !decide (sinceE g (Shn.ch x) (l.getD x55 0).toNat=0) then !decide (sinceE g (Shn.ch x) (l.getD x55 0).toNat=3) else false)=true->(((!bif !decide (sinceE g (Shn.ch x) (l.getD x55 0).toNat=0) then !decide (sinceE g (Shn.ch x) (l.getD x55 0).toNat=3) else false)=true->(!bif !decide (sinceE g (Shn.ch x) (l.getD x55 0).toNat=0) then !decide (sinceE g (Shn.ch x) (l.getD x55 0).toNat=3) else false)=true)/\True)/\True)/\(((!bif !decide (sinceE g (Shn.ch x) (l.getD x55 0).toNat=0) then !decide (sinceE g (Shn.ch x) (l.getD x55 0).toNat=3) else false) && decide (sinceE g (Shn.ch x) (l.getD x55 0).toNat=0))=true->(True/\True)/\True)/\(((!bif !decide (sinceE g (Shn.ch x) (l.getD x55 0).toNat=0) then !decide (sinceE g (Shn.ch x) (l.getD x55 0).toNat=3) else false) && decide (sinceE g (Shn.ch x) (l.getD x55 0).toNat=0))=true->(True/\(((!bif !decide (sinceE g (Shn.ch x) (l.getD x55 0).toNat=0) then !decide (sinceE g (Shn.ch x) (l.getD x55 0).toNat=3) else false) && decide (sinceE g (Shn.ch x) (l.getD x55 0).toNat=0))=true->((!bif !decide (sinceE g (Shn.ch x) (l.getD x55 0).toNat=0) then !decide (sinceE g (Shn.ch x) (l.getD x55 0).toNat=3) else false) && decide (sinceE g (Shn.ch x) (l.getD x55 0).toNat=0))=true)/\True)/\(zE (iv (sinceR g (Shn.ch x) (l.getD x55 0).toNat))/\True)/\Triple Try.prog 62 (s62 (sinceR g (Shn.ch x) (l.getD x55 0).toNat))/\True/\True /\ ∀ (i71:Env),True)/\(((!bif !decide (sinceE g (Shn.ch x) (l.getD x55 0).toNat=0) then !decide (sinceE g (Shn.ch x) (l.getD x55 0).toNat=3) else false) && decide (sinceE g (Shn.ch x) (l.getD x55 0).toNat=0))=true->((((!bif !decide (sinceE g (Shn.ch x) (l.getD x55 0).toNat=0) then !decide (sinceE g (Shn.ch x) (l.getD x55 0).toNat=3) else false) && decide (sinceE g (Shn.ch x) (l.getD x55 0).toNat=0))=true->((!bif !decide (sinceE g (Shn.ch x) (l.getD x55 0).toNat=0) then !decide (sinceE g (Shn.ch x) (l.getD x55 0).toNat=3) else false) && decide (sinceE g (Shn.ch x) (l.getD x55 0).toNat=0))=true)/\True)/\True)/\((!bif !decide (sinceE g (Shn.ch x) (l.getD x55 0).toNat=0) then !decide (sinceE g (Shn.ch x) (l.getD x55 0).toNat=3) else false)=true->(((!bif !decide (sinceE g (Shn.ch x) (l.getD x55 0).toNat=0) then !decide (sinceE g (Shn.ch x) (l.getD x55 0).toNat=3) else false)=true->(!bif !decide (sinceE g (Shn.ch x) (l.getD x55 0).toNat=0) then !decide (sinceE g (Shn.ch x) (l.getD x55 0).toNat=3) else false)=true)/\True)/\(decide (sinceE g (Shn.ch x) (l.getD x55 0).toNat=0)=true->((!bif !decide (sinceE g (Shn.ch x) (l.getD x55 0).toNat=0) then !decide (sinceE g (Shn.ch x) (l.getD x55 0).toNat=3) else false) && decide (sinceE g (Shn.ch x) (l.getD x55 0).toNat=0))=true)/\(decide (sinceE g (Shn.ch x) (l.getD x55 0).toNat=0)=false->True))/\(((bif !decide (sinceE g (Shn.ch x) (l.getD x55 0).toNat=0) then !decide (sinceE g (Shn.ch x) (l.getD x55 0).toNat=3) else false)=true->True)/\((bif !decide (sinceE g (Shn.ch x) (l.getD x55 0).toNat=0) then !decide (sinceE g (Shn.ch x) (l.getD x55 0).toNat=3) else false)=false->(!bif !decide (sinceE g (Shn.ch x) (l.getD x55 0).toNat=0) then !decide (sinceE g (Shn.ch x) (l.getD x55 0).toNat=3) else false)=true))/\True) (st':=ASt.mk [(1,aInts l),(3,.ptr 0 []),(5,.ptr 8 []),(7,iv (firstTo g l x53)),(9,.ptr 10368 []),(11,iv (x55:Int)),(10,.ptr 5000 []),(12,iv (sinceR g (Shn.ch x) (l.getD x55 0).toNat)),(13,iv (sinceE g (Shn.ch x) (l.getD x55 0).toNat)),(113,bv (bif bif !decide (sinceE g (Shn.ch x) (l.getD x55 0).toNat=0) then !decide (sinceE g (Shn.ch x) (l.getD x55 0).toNat=3) else false then true else bif decide (sinceE g (Shn.ch x) (l.getD x55 0).toNat=0) then !within (sinceR g (Shn.ch x) (l.getD x55 0).toNat) 0 99 else false))] [(0,.cells 80 (cHs g)),(8,.cells 82 (cShn x)),(10368,.cells 25 [iv (↑(l.length):Int),iv (min 30 (100 - firstTo g l x53)),nilv,nilv]),(5000,.cells 42 [.vec 5001,iv (Shn.rate x)]),(5001,.vec 37 2 x55 fun (k:Nat)=>cSpan ((chT g l (Shn.ch x) x55).getD k default))] 20688) ⟨tv,tv,tv,(fun h58=>⟨⟨tv,tv⟩,tv⟩),(fun h59=>⟨⟨(fun h60=>h59),tv,tv⟩,tv⟩),⟨(fun h61=>h61),(fun h62=>tv)⟩,tv,(fun h63=>⟨⟨tv,tv⟩,tv⟩),(fun h64=>⟨⟨(fun h65=>h64),tv,tv⟩,tv⟩),(fun h66=>⟨⟨(fun h67=>h66),tv⟩,tv⟩),(fun h68=>⟨⟨tv,tv⟩,tv⟩),(fun h69=>⟨⟨tv,(fun h70=>h69),tv⟩,⟨rfl,tv⟩,(t62 (sinceR g (Shn.ch x) (l.getD x55 0).toNat)),tv,tv,(fun i71=>tv)⟩),(fun h72=>⟨⟨(fun h73=>h72),tv⟩,tv⟩),(fun h74=>⟨⟨(fun h75=>h74),tv⟩,(fun h76=>(o26 hp h51 x53 hx53 h54 x55 hx55 h56 h74 h76)),(fun h77=>tv)⟩),⟨(fun h78=>tv),(fun h79=>(o27 hp h51 x53 hx53 h54 x55 hx55 h56 h79))⟩,tv⟩ ?_
    refine swp_cond (bif bif !decide (sinceE g (Shn.ch x) (l.getD x55 0).toNat=0) then !decide (sinceE g (Shn.ch x) (l.getD x55 0).toNat=3) else false then true else bif decide (sinceE g (Shn.ch x) (l.getD x55 0).toNat=0) then !within (sinceR g (Shn.ch x) (l.getD x55 0).toNat) 0 99 else false) (by kernel_rfl) (fun h=>by cases (h.symm.trans (o28 hp h51 x53 hx53 h54 x55 hx55 h56))) (fun _ => ?_)
    refine swp_skip (swp_seq (swp_seq ?_))
    refine sQ (kt:=[1,3,5,7,9,11,10,12,115]) (kh:=[0,8,10368,5000,5001]) (q:=tn 2) (st':=ASt.mk [(1,aInts l),(3,.ptr 0 []),(5,.ptr 8 []),(7,iv (firstTo g l x53)),(9,.ptr 10368 []),(11,iv (x55:Int)),(10,.ptr 5000 []),(12,iv (sinceR g (Shn.ch x) (l.getD x55 0).toNat)),(115,bv !decide (sinceE g (Shn.ch x) (l.getD x55 0).toNat=0))] [(0,.cells 80 (cHs g)),(8,.cells 82 (cShn x)),(10368,.cells 25 [iv (↑(l.length):Int),iv (min 30 (100 - firstTo g l x53)),nilv,nilv]),(5000,.cells 42 [.vec 5001,iv (Shn.rate x)]),(5001,.vec 37 2 x55 fun (k:Nat)=>cSpan ((chT g l (Shn.ch x) x55).getD k default))] 20704) (tp 2) ?_
    refine swp_join2 (ASt.mk [(12,iv (sinceV g (Shn.ch x) (l.getD x55 0).toNat)),(1,aInts l),(3,AV.ptr 0 []),(5,AV.ptr 8 []),(7,iv (firstTo g l x53)),(9,AV.ptr 10368 []),(11,iv (x55:Int)),(10,AV.ptr 5000 [])] [(0,OB.cells 80 (cHs g)),(8,OB.cells 82 (cShn x)),(10368,OB.cells 25 [iv (↑(l.length):Int),iv (min 30 (100 - firstTo g l x53)),nilv,nilv]),(5000,OB.cells 42 [AV.vec 5001,iv (Shn.rate x)]),(5001,OB.vec 37 2 x55 fun (k:Nat)=>cSpan ((chT g l (Shn.ch x) x55).getD k default))] 30704) ?_ ?_
    ·refine swp_seq ?_
     refine sQ (kt:=[1,3,5,7,9,11,10,14]) (kh:=[0,8,10368,5000,5001]) (q:=True/\True/\True/\True/\inI (sinceV g (Shn.ch x) (l.getD x55 0).toNat - firstTo g l x53)/\tn 3) (st':=ASt.mk [(1,aInts l),(3,.ptr 0 []),(5,.ptr 8 []),(7,iv (firstTo g l x53)),(9,.ptr 10368 []),(11,iv (x55:Int)),(10,.ptr 5000 []),(14,iv (min (min 30 (100 - firstTo g l x53)) (max 0 (sinceV g (Shn.ch x) (l.getD x55 0).toNat - firstTo g l x53))))] [(0,.cells 80 (cHs g)),(8,.cells 82 (cShn x)),(10368,.cells 25 [iv (↑(l.length):Int),iv (min 30 (100 - firstTo g l x53)),nilv,nilv]),(5000,.cells 42 [.vec 5001,iv (Shn.rate x)]),(5001,.vec 37 2 x55 fun (k:Nat)=>cSpan ((chT g l (Shn.ch x) x55).getD k default))] 30768) ⟨tv,tv,tv,tv,(o31 hp h51 x53 hx53 h54 x55 hx55 h56),tp 3⟩ ?_
     refine sQ (kt:=[1,3,5,7,9,11,10]) (kh:=[0,8,10368,5000,30816]) (q:=True/\True/\True/\True/\True/\True/\x55 + 1<=65536/\tn 2) (st':=ASt.mk [(1,aInts l),(3,.ptr 0 []),(5,.ptr 8 []),(7,iv (firstTo g l x53)),(9,.ptr 10368 []),(11,iv (x55:Int)),(10,.ptr 5000 [])] [(0,.cells 80 (cHs g)),(8,.cells 82 (cShn x)),(10368,.cells 25 [iv (↑(l.length):Int),iv (min 30 (100 - firstTo g l x53)),nilv,nilv]),(5000,.cells 42 [.vec 30816,iv (Shn.rate x)]),(30816,.vec 37 2 (x55 + 1) (catF x55 (fun (k:Nat)=>cSpan ((chT g l (Shn.ch x) x55).getD k default)) fun (j:Nat)=>List.getD [[iv (min (min 30 (100 - firstTo g l x53)) (max 0 (sinceV g (Shn.ch x) (l.getD x55 0).toNat - firstTo g l x53))),iv (min (min 30 (100 - firstTo g l x53)) (max 0 (sinceV g (Shn.ch x) (l.getD x55 0).toNat - firstTo g l x53)))]] j (TI.za ti37)))] 30840) ⟨tv,tv,tv,tv,tv,tv,(o32 hp h51 x53 hx53 h54 x55 hx55 h56),tp 2⟩ ?_
     refine sQ (kt:=[1,3,5,7,9,11,10]) (kh:=[0,8,10368,5000,30816]) (q:=True/\inI ((x55:Int) + 1)/\True/\True) (st':=ASt.mk [(1,aInts l),(3,.ptr 0 []),(5,.ptr 8 []),(7,iv (firstTo g l x53)),(9,.ptr 10368 []),(11,iv ((x55:Int) + 1)),(10,.ptr 5000 [])] [(0,.cells 80 (cHs g)),(8,.cells 82 (cShn x)),(10368,.cells 25 [iv (↑(l.length):Int),iv (min 30 (100 - firstTo g l x53)),nilv,nilv]),(5000,.cells 42 [.vec 30816,iv (Shn.rate x)]),(30816,.vec 37 2 (x55 + 1) (catF x55 (fun (k:Nat)=>cSpan ((chT g l (Shn.ch x) x55).getD k default)) fun (j:Nat)=>List.getD [[iv (min (min 30 (100 - firstTo g l x53)) (max 0 (sinceV g (Shn.ch x) (l.getD x55 0).toNat - firstTo g l x53))),iv (min (min 30 (100 - firstTo g l x53)) (max 0 (sinceV g (Shn.ch x) (l.getD x55 0).toNat - firstTo g l x53)))]] j (TI.za ti37)))] 30864) ⟨tv,(o33 hp h51 x53 hx53 h54 x55 hx55 h56),tv,tv⟩ ?_
     exact loop_next (z14_1 g l x x53) x55 (eQ hE [] [(0,.same 0),(8,.same 8),(10368,.same 10368),(5000,.same 5000),(5001,.same 30816)] [1,7] [0,8,10368] (((zT (aInts l))/\(zP 0)/\(zP 8)/\(zT (iv (firstTo g l x53)))/\(zP 10368)/\(zN (iv ((x55:Int) + 1)) (iv (↑(x55 + 1):Int)))/\(zP 5000)/\True)/\((zT (OB.cells 80 (cHs g)))/\(zT (OB.cells 82 (cShn x)))/\(zT (OB.cells 25 [iv (↑(l.length):Int),iv (min 30 (100 - firstTo g l x53)),nilv,nilv]))/\(42=42/\(zE (some (Src.same 30816))/\(zM (iv (Shn.rate x)))/\True)/\true=true)/\(37=37/\2=2/\x55 + 1=x55 + 1 /\ ∀ (i81:Nat),i81 < x55 + 1->catF x55 (fun (k:Nat)=>cSpan ((chT g l (Shn.ch x) x55).getD k default)) (fun (j:Nat)=>List.getD [[iv (min (min 30 (100 - firstTo g l x53)) (max 0 (sinceV g (Shn.ch x) (l.getD x55 0).toNat - firstTo g l x53))),iv (min (min 30 (100 - firstTo g l x53)) (max 0 (sinceV g (Shn.ch x) (l.getD x55 0).toNat - firstTo g l x53)))]] j (TI.za ti37)) i81=cSpan ((chT g l (Shn.ch x) (x55 + 1)).getD i81 default))/\True)/\T2) ⟨⟨⟨rfl,rfl⟩,⟨rfl,rfl⟩,⟨rfl,rfl⟩,⟨rfl,rfl⟩,⟨rfl,rfl⟩,⟨(congrArg iv (o34 hp h51 x53 hx53 h54 x55 hx55 h56)),rfl⟩,⟨rfl,rfl⟩,tv⟩,⟨⟨rfl,rfl⟩,⟨rfl,rfl⟩,⟨rfl,rfl⟩,⟨rfl,⟨rfl,⟨rfl,rfl⟩,tv⟩,rfl⟩,⟨rfl,rfl,rfl,(fun i81=>(fun h82=>(o35 hp h51 x53 hx53 h54 x55 hx55 h56 i81 h82)))⟩,tv⟩,rfl,rfl⟩) (o36 hp h51 x53 hx53 h54 x55 hx55 h56) (o37 hp h51 x53 hx53 h54 x55 hx55 h56)
    ·refine swp_cond (!decide (sinceE g (Shn.ch x) (l.getD x55 0).toNat=0)) (by kernel_rfl) (fun h80 => ?_) (fun h80 => ?_)
     ·refine sQ (kt:=[1,3,5,7,9,11,10,12]) (kh:=[0,8,10368,5000,5001]) (q:=True/\True) (st':=ASt.mk [(1,aInts l),(3,.ptr 0 []),(5,.ptr 8 []),(7,iv (firstTo g l x53)),(9,.ptr 10368 []),(11,iv (x55:Int)),(10,.ptr 5000 []),(12,iv 100)] [(0,.cells 80 (cHs g)),(8,.cells 82 (cShn x)),(10368,.cells 25 [iv (↑(l.length):Int),iv (min 30 (100 - firstTo g l x53)),nilv,nilv]),(5000,.cells 42 [.vec 5001,iv (Shn.rate x)]),(5001,.vec 37 2 x55 fun (k:Nat)=>cSpan ((chT g l (Shn.ch x) x55).getD k default))] 20712) ⟨tv,tv⟩ ?_
      exact join_end (ent_q hE [] [(0,.same 0),(8,.same 8),(10368,.same 10368),(5000,.same 5000),(5001,.same 5001)] [1,7,11] [0,8,10368,5001] (((iv 100=iv (sinceV g (Shn.ch x) (l.getD x55 0).toNat)/\nilN = [])/\(aInts l=aInts l/\true=true)/\(some (Src.same 0)=some (Src.same 0)/\nilP = [])/\(some (Src.same 8)=some (Src.same 8)/\nilP = [])/\(iv (firstTo g l x53)=iv (firstTo g l x53)/\true=true)/\(some (Src.same 10368)=some (Src.same 10368)/\nilP = [])/\(iv (x55:Int)=iv (x55:Int)/\true=true)/\(some (Src.same 5000)=some (Src.same 5000)/\nilP = [])/\True)/\((OB.cells 80 (cHs g)=OB.cells 80 (cHs g)/\true=true)/\(OB.cells 82 (cShn x)=OB.cells 82 (cShn x)/\true=true)/\(OB.cells 25 [iv (↑(l.length):Int),iv (min 30 (100 - firstTo g l x53)),nilv,nilv]=OB.cells 25 [iv (↑(l.length):Int),iv (min 30 (100 - firstTo g l x53)),nilv,nilv]/\true=true)/\(42=42/\(some (Src.same 5001)=some (Src.same 5001)/\(iv (Shn.rate x)=iv (Shn.rate x)/\nilN = [])/\True)/\true=true)/\(((OB.vec 37 2 x55 fun (k:Nat)=>cSpan ((chT g l (Shn.ch x) x55).getD k default))=OB.vec 37 2 x55 fun (k:Nat)=>cSpan ((chT g l (Shn.ch x) x55).getD k default))/\true=true)/\True)/\T2) (by kernel_rfl) (by kernel_rfl) ⟨⟨⟨(congrArg iv (o29 hp h51 x53 hx53 h54 x55 hx55 h56 h80)),rfl⟩,⟨rfl,rfl⟩,⟨rfl,rfl⟩,⟨rfl,rfl⟩,⟨rfl,rfl⟩,⟨rfl,rfl⟩,⟨rfl,rfl⟩,⟨rfl,rfl⟩,tv⟩,⟨⟨rfl,rfl⟩,⟨rfl,rfl⟩,⟨rfl,rfl⟩,⟨rfl,⟨rfl,⟨rfl,rfl⟩,tv⟩,rfl⟩,⟨rfl,rfl⟩,tv⟩,rfl,rfl⟩)
     ·refine swp_skip ?_
      exact join_end (ent_q hE [] [(0,.same 0),(8,.same 8),(10368,.same 10368),(5000,.same 5000),(5001,.same 5001)] [1,7,11] [0,8,10368,5001] (((iv (sinceR g (Shn.ch x) (l.getD x55 0).toNat)=iv (sinceV g (Shn.ch x) (l.getD x55 0).toNat)/\nilN = [])/\(aInts l=aInts l/\true=true)/\(some (Src.same 0)=some (Src.same 0)/\nilP = [])/\(some (Src.same 8)=some (Src.same 8)/\nilP = [])/\(iv (firstTo g l x53)=iv (firstTo g l x53)/\true=true)/\(some (Src.same 10368)=some (Src.same 10368)/\nilP = [])/\(iv (x55:Int)=iv (x55:Int)/\true=true)/\(some (Src.same 5000)=some (Src.same 5000)/\nilP = [])/\True)/\((OB.cells 80 (cHs g)=OB.cells 80 (cHs g)/\true=true)/\(OB.cells 82 (cShn x)=OB.cells 82 (cShn x)/\true=true)/\(OB.cells 25 [iv (↑(l.length):Int),iv (min 30 (100 - firstTo g l x53)),nilv,nilv]=OB.cells 25 [iv (↑(l.length):Int),iv (min 30 (100 - firstTo g l x53)),nilv,nilv]/\true=true)/\(42=42/\(some (Src.same 5001)=some (Src.same 5001)/\(iv (Shn.rate x)=iv (Shn.rate x)/\nilN = [])/\True)/\true=true)/\(((OB.vec 37 2 x55 fun (k:Nat)=>cSpan ((chT g l (Shn.ch x) x55).getD k default))=OB.vec 37 2 x55 fun (k:Nat)=>cSpan ((chT g l (Shn.ch x) x55).getD k default))/\true=true)/\True)/\T2) (by kernel_rfl) (by kernel_rfl) ⟨⟨⟨(congrArg iv (o30 hp h51 x53 hx53 h54 x55 hx55 h56 h80)),rfl⟩,⟨rfl,rfl⟩,⟨rfl,rfl⟩,⟨rfl,rfl⟩,⟨rfl,rfl⟩,⟨rfl,rfl⟩,⟨rfl,rfl⟩,⟨rfl,rfl⟩,tv⟩,⟨⟨rfl,rfl⟩,⟨rfl,rfl⟩,⟨rfl,rfl⟩,⟨rfl,⟨rfl,⟨rfl,rfl⟩,tv⟩,rfl⟩,⟨rfl,rfl⟩,tv⟩,rfl,rfl⟩)
   ·refine swp_exit (swp_seq ?_)
    refine swp_ent (eQ (st2:=ASt.mk [(1,aInts l),(3,AV.ptr 0 []),(5,AV.ptr 8 []),(7,iv (firstTo g l x53)),(9,AV.ptr 10368 []),(11,iv (x55:Int)),(10,AV.ptr 5000 []),(85,bv (decide ((x55:Int) < (↑(l.length):Int))))] [(5000,OB.cells 42 (cMach (Mach.mk (chT g l (Shn.ch x) l.length) (Shn.rate x)))),(0,OB.cells 80 (cHs g)),(8,OB.cells 82 (cShn x)),(10368,OB.cells 25 [iv (↑(l.length):Int),iv (min 30 (100 - firstTo g l x53)),nilv,nilv])] 20464) hE [5001] [(0,.same 0),(8,.same 8),(10368,.same 10368),(5000,.same 5000)] [1,7,11,85] [0,8,10368] (((zT (aInts l))/\(zP 0)/\(zP 8)/\(zT (iv (firstTo g l x53)))/\(zP 10368)/\(zT (iv (x55:Int)))/\(zP 5000)/\(zT (bv (decide ((x55:Int) < (↑(l.length):Int)))))/\True)/\((42=42/\((2=2/\x55=(chT g l (Shn.ch x) l.length).length /\ ∀ (i83:Nat),i83 < (chT g l (Shn.ch x) l.length).length->cSpan ((chT g l (Shn.ch x) x55).getD i83 default) = [iv ((chT g l (Shn.ch x) l.length).getD i83 default).lo,iv ((chT g l (Shn.ch x) l.length).getD i83 default).hi])/\(zM (iv (Shn.rate x)))/\True)/\true=true)/\(zT (OB.cells 80 (cHs g)))/\(zT (OB.cells 82 (cShn x)))/\(zT (OB.cells 25 [iv (↑(l.length):Int),iv (min 30 (100 - firstTo g l x53)),nilv,nilv]))/\True)/\T2) ⟨⟨⟨rfl,rfl⟩,⟨rfl,rfl⟩,⟨rfl,rfl⟩,⟨rfl,rfl⟩,⟨rfl,rfl⟩,⟨rfl,rfl⟩,⟨rfl,rfl⟩,⟨rfl,rfl⟩,tv⟩,⟨⟨rfl,⟨⟨rfl,(o38 hp h51 x53 hx53 h54 x55 hx55 h56),(fun i83=>(fun h84=>(o39 hp h51 x53 hx53 h54 x55 hx55 h56 i83 h84)))⟩,⟨rfl,rfl⟩,tv⟩,rfl⟩,⟨rfl,rfl⟩,⟨rfl,rfl⟩,⟨rfl,rfl⟩,tv⟩,rfl,rfl⟩) ?_
    refine sQ (kt:=[1,3,5,7,9]) (kh:=[0,8,10368,20472]) (q:=tn 4) (st':=ASt.mk [(1,aInts l),(3,.ptr 0 []),(5,.ptr 8 []),(7,iv (firstTo g l x53)),(9,.ptr 10368 [])] [(0,.cells 80 (cHs g)),(8,.cells 82 (cShn x)),(10368,.cells 25 [iv (↑(l.length):Int),iv (min 30 (100 - firstTo g l x53)),.vec 20472,nilv]),(20472,.vec 42 2 1 fun (j:Nat)=>List.getD [[.sl 2 (chT g l (Shn.ch x) l.length).length fun (i:Nat)=>cSpan ((chT g l (Shn.ch x) l.length).getD i default),iv (Shn.rate x)]] j (TI.za ti42))] 20496) (tp 4) ?_
    refine swp_seq (swp_seq ?_)
    refine swp_ent (eQ (st2:=ASt.mk [(1,aInts l),(3,AV.ptr 0 []),(5,AV.ptr 8 []),(7,iv (firstTo g l x53)),(9,AV.ptr 10368 [])] [(10368,OB.cells 25 (cRun (runS g l x))),(0,OB.cells 80 (cHs g)),(8,OB.cells 82 (cShn x))] 20496) hE [20472] [(0,.same 0),(8,.same 8),(10368,.same 10368)] [1,7] [0,8] (((zT (aInts l))/\(zP 0)/\(zP 8)/\(zT (iv (firstTo g l x53)))/\(zP 10368)/\True)/\((25=25/\((zN (iv (↑(l.length):Int)) (iv (runS g l x).plates))/\(zN (iv (min 30 (100 - firstTo g l x53))) (iv (runS g l x).last))/\(2=2/\1=(runS g l x).machines.length /\ ∀ (i85:Nat),i85 < (runS g l x).machines.length->List.getD [[AV.sl 2 (chT g l (Shn.ch x) l.length).length fun (i:Nat)=>cSpan ((chT g l (Shn.ch x) l.length).getD i default),iv (Shn.rate x)]] i85 (TI.za ti42)=cMach (mach (runS g l x) i85))/\(runS g l x).found.length=0/\True)/\true=true)/\(zT (OB.cells 80 (cHs g)))/\(zT (OB.cells 82 (cShn x)))/\True)/\T2) ⟨⟨⟨rfl,rfl⟩,⟨rfl,rfl⟩,⟨rfl,rfl⟩,⟨rfl,rfl⟩,⟨rfl,rfl⟩,tv⟩,⟨⟨rfl,⟨⟨(congrArg iv (o40 hp h51 x53 hx53 h54 x55 hx55 h56)),rfl⟩,⟨(congrArg iv (o41 hp h51 x53 hx53 h54 x55 hx55 h56)),rfl⟩,⟨rfl,(o42 hp h51 x53 hx53 h54 x55 hx55 h56),(fun i85=>(fun h86=>(o43 hp h51 x53 hx53 h54 x55 hx55 h56 i85 h86)))⟩,(o44 hp h51 x53 hx53 h54 x55 hx55 h56),tv⟩,rfl⟩,⟨rfl,rfl⟩,⟨rfl,rfl⟩,tv⟩,rfl,rfl⟩) ?_
    refine sC (cs:=[(1,CallSpec.eq (s63 (runS g l x)) [true])]) (kt:=[1,3,5,7,9,136]) (kh:=[0,8,10368]) (q:=True/\((zE (AV.agg (cRun (runS g l x)))/\True)/\Triple Try.prog 63 (s63 (runS g l x))/\fits (runS g l x)/\True /\ ∀ (i87:Env),True)/\True/\True) (st':=ASt.mk [(1,aInts l),(3,.ptr 0 []),(5,.ptr 8 []),(7,iv (firstTo g l x53)),(9,.ptr 10368 []),(136,bv !decide (check (runS g l x)=0))] [(0,.cells 80 (cHs g)),(8,.cells 82 (cShn x)),(10368,.cells 25 (cRun (runS g l x)))] 20520) ⟨tv,⟨⟨rfl,tv⟩,(t63 (runS g l x)),(o45 hp h51 x53 hx53 h54 x55 hx55 h56),tv,(fun i87=>tv)⟩,tv,tv⟩ ?_
    refine swp_cond (!decide (check (runS g l x)=0)) (by kernel_rfl) (fun h=>by cases (h.symm.trans (o46 hp h51 x53 hx53 h54 x55 hx55 h56))) (fun _ => ?_)
    refine swp_skip (swp_seq ?_)
    refine sQ (kt:=[1,3,5,7,9,15]) (kh:=[0,8,10368]) (q:=True/\True) (st':=ASt.mk [(1,aInts l),(3,.ptr 0 []),(5,.ptr 8 []),(7,iv (firstTo g l x53)),(9,.ptr 10368 []),(15,iv 0)] [(0,.cells 80 (cHs g)),(8,.cells 82 (cShn x)),(10368,.cells 25 (cRun (runS g l x)))] 20528) ⟨tv,tv⟩ ?_
    refine swp_seq (swp_seq ?_)
    refine sQ (kt:=[1,3,5,7,9,15,16]) (kh:=[0,8,10368]) (q:=True/\True) (st':=ASt.mk [(1,aInts l),(3,.ptr 0 []),(5,.ptr 8 []),(7,iv (firstTo g l x53)),(9,.ptr 10368 []),(15,iv 0),(16,iv 0)] [(0,.cells 80 (cHs g)),(8,.cells 82 (cShn x)),(10368,.cells 25 (cRun (runS g l x)))] 20536) ⟨tv,tv⟩ ?_
    refine swp_block ?_
    refine swp_loopA (z14_2 g l x x53) (eQ hE [] [(0,.same 0),(8,.same 8),(10368,.same 10368)] [1,7] [0,8,10368] (((zT (aInts l))/\(zP 0)/\(zP 8)/\(zT (iv (firstTo g l x53)))/\(zP 10368)/\(zN (iv 0) (iv (↑0:Int)))/\(zN (iv 0) (iv (minT g l (Shn.ch x) 0)))/\True)/\((zT (OB.cells 80 (cHs g)))/\(zT (OB.cells 82 (cShn x)))/\(zT (OB.cells 25 (cRun (runS g l x))))/\True)/\T2) ⟨⟨⟨rfl,rfl⟩,⟨rfl,rfl⟩,⟨rfl,rfl⟩,⟨rfl,rfl⟩,⟨rfl,rfl⟩,⟨(congrArg iv (o47 hp h51 x53 hx53 h54 x55 hx55 h56)),rfl⟩,⟨(congrArg iv (o48 hp h51 x53 hx53 h54 x55 hx55 h56)),rfl⟩,tv⟩,⟨⟨rfl,rfl⟩,⟨rfl,rfl⟩,⟨rfl,rfl⟩,tv⟩,rfl,rfl⟩) (o49 hp h51 x53 hx53 h54 x55 hx55 h56) (fun (x88:Nat) hx88 => ?_)
    refine swp_seq (swp_seq ?_)
    refine sQ (kt:=[1,3,5,7,9,16,15,140]) (kh:=[0,8,10368]) (q:=tn 4) (st':=ASt.mk [(1,aInts l),(3,.ptr 0 []),(5,.ptr 8 []),(7,iv (firstTo g l x53)),(9,.ptr 10368 []),(16,iv (x88:Int)),(15,iv (minT g l (Shn.ch x) x88)),(140,bv (decide ((x88:Int) < (runS g l x).last)))] [(0,.cells 80 (cHs g)),(8,.cells 82 (cShn x)),(10368,.cells 25 (cRun (runS g l x)))] 30568) (tp 4) ?_
    refine swp_cond (decide ((x88:Int) < (runS g l x).last)) (by kernel_rfl) (fun h89 => ?_) (fun h89 => ?_)
    ·refine swp_skip (swp_seq (swp_block (swp_seq ?_)))
     refine sC (cs:=[(7,CallSpec.eq (c14d g l x x88) [true,false,false])]) (kt:=[1,3,5,7,9,16,15,17,18]) (kh:=[0,8,10368]) (q:=True/\True/\True/\0 + l.length<=65536/\True/\True/\inI (firstTo g l x53 + (x88:Int))/\((zE (AV.agg (cHs g))/\(1=1/\0 + l.length=l.length /\ ∀ (i90:Nat),i90 < l.length -> [iv (l.getD i90 0)] = [iv (l.getD i90 0)])/\iv (firstTo g l x53 + (x88:Int))=iv (firstV g l + (x88:Int))/\True)/\Triple Try.prog 64 (c14d g l x x88)/\(okH g=true/\plates7 g l (firstV g l + (x88:Int))=true/\within (firstV g l + (x88:Int)) 0 99=true/\l.length<=1125899906842624)/\True /\ ∀ (i92:Env),True)/\tn 5) (st':=ASt.mk [(1,aInts l),(3,.ptr 0 []),(5,.ptr 8 []),(7,iv (firstTo g l x53)),(9,.ptr 10368 []),(16,iv (x88:Int)),(15,iv (minT g l (Shn.ch x) x88)),(17,aInts (mixed7 g l (firstV g l + (x88:Int)))),(18,iv 0)] [(0,.cells 80 (cHs g)),(8,.cells 82 (cShn x)),(10368,.cells 25 (cRun (runS g l x)))] 30672) ⟨tv,tv,tv,(o50 hp h51 x53 hx53 h54 x55 hx55 h56 x88 hx88 h89),tv,tv,(o51 hp h51 x53 hx53 h54 x55 hx55 h56 x88 hx88 h89),⟨⟨rfl,⟨rfl,(o52 hp h51 x53 hx53 h54 x55 hx55 h56 x88 hx88 h89),(fun i90=>(fun h91=>rfl))⟩,(congrArg iv (o53 hp h51 x53 hx53 h54 x55 hx55 h56 x88 hx88 h89)),tv⟩,(t64 _ _ _),⟨(o54 hp h51 x53 hx53 h54 x55 hx55 h56 x88 hx88 h89),(o55 hp h51 x53 hx53 h54 x55 hx55 h56 x88 hx88 h89),(o56 hp h51 x53 hx53 h54 x55 hx55 h56 x88 hx88 h89),hp.2⟩,tv,(fun i92=>tv)⟩,tp 5⟩ ?_
     refine swp_seq (swp_seq ?_)
     refine sQ (kt:=[1,3,5,7,9,16,15,17,160]) (kh:=[0,8,10368]) (q:=True/\True/\True/\((!false)=true->(True/\True)/\True)/\((!false)=true->(((!false)=true->true=true)/\True)/\True)/\((!false)=true->(((!false)=true->true=true)/\True/\True)/\True)/\((false=true->True)/\(false=false->true=true))/\True) (st':=ASt.mk [(1,aInts l),(3,.ptr 0 []),(5,.ptr 8 []),(7,iv (firstTo g l x53)),(9,.ptr 10368 []),(16,iv (x88:Int)),(15,iv (minT g l (Shn.ch x) x88)),(17,aInts (mixed7 g l (firstV g l + (x88:Int)))),(160,bv (decide (3 < (↑((mixed7 g l (firstV g l + (x88:Int))).length):Int))))] [(0,.cells 80 (cHs g)),(8,.cells 82 (cShn x)),(10368,.cells 25 (cRun (runS g l x)))] 30728) ⟨tv,tv,tv,(fun h93=>⟨⟨tv,tv⟩,tv⟩),(fun h94=>⟨⟨(fun h95=>rfl),tv⟩,tv⟩),(fun h96=>⟨⟨(fun h97=>rfl),tv,tv⟩,tv⟩),⟨(fun h98=>tv),(fun h99=>rfl)⟩,tv⟩ ?_
     refine swp_cond (decide (3 < (↑((mixed7 g l (firstV g l + (x88:Int))).length):Int))) (by kernel_rfl) (fun h=>by cases (h.symm.trans (o57 hp h51 x53 hx53 h54 x55 hx55 h56 x88 hx88 h89))) (fun _ => ?_)
     refine swp_skip (swp_seq ?_)
     refine sC (cs:=[(3,CallSpec.eq (s51 (mixed7 g l (firstV g l + (x88:Int))) (Shn.ch x)) [true,true])]) (kt:=[1,3,5,7,9,16,15,164]) (kh:=[0,8,10368]) (q:=True/\True/\True/\((zE (aInts (mixed7 g l (firstV g l + (x88:Int))))/\zE (iv (Shn.ch x))/\True)/\Triple Try.prog 51 (s51 (mixed7 g l (firstV g l + (x88:Int))) (Shn.ch x))/\(mixed7 g l (firstV g l + (x88:Int))).length<=1125899906842624/\True /\ ∀ (i100:Env),True)/\True) (st':=ASt.mk [(1,aInts l),(3,.ptr 0 []),(5,.ptr 8 []),(7,iv (firstTo g l x53)),(9,.ptr 10368 []),(16,iv (x88:Int)),(15,iv (minT g l (Shn.ch x) x88)),(164,bv (isIn (mixed7 g l (firstV g l + (x88:Int))) (Shn.ch x)))] [(0,.cells 80 (cHs g)),(8,.cells 82 (cShn x)),(10368,.cells 25 (cRun (runS g l x)))] 30760) ⟨tv,tv,tv,⟨⟨rfl,rfl,tv⟩,(t51 (mixed7 g l (firstV g l + (x88:Int))) (Shn.ch x)),(o58 hp h51 x53 hx53 h54 x55 hx55 h56 x88 hx88 h89),tv,(fun i100=>tv)⟩,tv⟩ ?_
     refine swp_cond (isIn (mixed7 g l (firstV g l + (x88:Int))) (Shn.ch x)) (by kernel_rfl) (fun h101 => ?_) (fun h101 => ?_)
     ·refine sQ (kt:=[1,3,5,7,9,16,15]) (kh:=[0,8,10368]) (q:=True/\inI (minT g l (Shn.ch x) x88 + 1)/\True/\True) (st':=ASt.mk [(1,aInts l),(3,.ptr 0 []),(5,.ptr 8 []),(7,iv (firstTo g l x53)),(9,.ptr 10368 []),(16,iv (x88:Int)),(15,iv (minT g l (Shn.ch x) x88 + 1))] [(0,.cells 80 (cHs g)),(8,.cells 82 (cShn x)),(10368,.cells 25 (cRun (runS g l x)))] 30784) ⟨tv,(o59 hp h51 x53 hx53 h54 x55 hx55 h56 x88 hx88 h89 h101),tv,tv⟩ ?_
      refine sQ (kt:=[1,3,5,7,9,16,15]) (kh:=[0,8,10368]) (q:=True/\inI ((x88:Int) + 1)/\True/\True) (st':=ASt.mk [(1,aInts l),(3,.ptr 0 []),(5,.ptr 8 []),(7,iv (firstTo g l x53)),(9,.ptr 10368 []),(16,iv ((x88:Int) + 1)),(15,iv (minT g l (Shn.ch x) x88 + 1))] [(0,.cells 80 (cHs g)),(8,.cells 82 (cShn x)),(10368,.cells 25 (cRun (runS g l x)))] 30808) ⟨tv,(o60 hp h51 x53 hx53 h54 x55 hx55 h56 x88 hx88 h89 h101),tv,tv⟩ ?_
      exact loop_next (z14_2 g l x x53) x88 (eQ hE [] [(0,.same 0),(8,.same 8),(10368,.same 10368)] [1,7] [0,8,10368] (((zT (aInts l))/\(zP 0)/\(zP 8)/\(zT (iv (firstTo g l x53)))/\(zP 10368)/\(zN (iv ((x88:Int) + 1)) (iv (↑(x88 + 1):Int)))/\(zN (iv (minT g l (Shn.ch x) x88 + 1)) (iv (minT g l (Shn.ch x) (x88 + 1))))/\True)/\((zT (OB.cells 80 (cHs g)))/\(zT (OB.cells 82 (cShn x)))/\(zT (OB.cells 25 (cRun (runS g l x))))/\True)/\T2) ⟨⟨⟨rfl,rfl⟩,⟨rfl,rfl⟩,⟨rfl,rfl⟩,⟨rfl,rfl⟩,⟨rfl,rfl⟩,⟨(congrArg iv (o61 hp h51 x53 hx53 h54 x55 hx55 h56 x88 hx88 h89 h101)),rfl⟩,⟨(congrArg iv (o62 hp h51 x53 hx53 h54 x55 hx55 h56 x88 hx88 h89 h101)),rfl⟩,tv⟩,⟨⟨rfl,rfl⟩,⟨rfl,rfl⟩,⟨rfl,rfl⟩,tv⟩,rfl,rfl⟩) (o63 hp h51 x53 hx53 h54 x55 hx55 h56 x88 hx88 h89 h101) (o64 hp h51 x53 hx53 h54 x55 hx55 h56 x88 hx88 h89 h101)
     ·refine swp_skip ?_
      refine sQ (kt:=[1,3,5,7,9,16,15]) (kh:=[0,8,10368]) (q:=True/\inI ((x88:Int) + 1)/\True/\True) (st':=ASt.mk [(1,aInts l),(3,.ptr 0 []),(5,.ptr 8 []),(7,iv (firstTo g l x53)),(9,.ptr 10368 []),(16,iv ((x88:Int) + 1)),(15,iv (minT g l (Shn.ch x) x88))] [(0,.cells 80 (cHs g)),(8,.cells 82 (cShn x)),(10368,.cells 25 (cRun (runS g l x)))] 30784) ⟨tv,(o65 hp h51 x53 hx53 h54 x55 hx55 h56 x88 hx88 h89 h101),tv,tv⟩ ?_
      exact loop_next (z14_2 g l x x53) x88 (eQ hE [] [(0,.same 0),(8,.same 8),(10368,.same 10368)] [1,7] [0,8,10368] (((zT (aInts l))/\(zP 0)/\(zP 8)/\(zT (iv (firstTo g l x53)))/\(zP 10368)/\(zN (iv ((x88:Int) + 1)) (iv (↑(x88 + 1):Int)))/\(zN (iv (minT g l (Shn.ch x) x88)) (iv (minT g l (Shn.ch x) (x88 + 1))))/\True)/\((zT (OB.cells 80 (cHs g)))/\(zT (OB.cells 82 (cShn x)))/\(zT (OB.cells 25 (cRun (runS g l x))))/\True)/\T2) ⟨⟨⟨rfl,rfl⟩,⟨rfl,rfl⟩,⟨rfl,rfl⟩,⟨rfl,rfl⟩,⟨rfl,rfl⟩,⟨(congrArg iv (o66 hp h51 x53 hx53 h54 x55 hx55 h56 x88 hx88 h89 h101)),rfl⟩,⟨(congrArg iv (o67 hp h51 x53 hx53 h54 x55 hx55 h56 x88 hx88 h89 h101)),rfl⟩,tv⟩,⟨⟨rfl,rfl⟩,⟨rfl,rfl⟩,⟨rfl,rfl⟩,tv⟩,rfl,rfl⟩) (o68 hp h51 x53 hx53 h54 x55 hx55 h56 x88 hx88 h89 h101) (o69 hp h51 x53 hx53 h54 x55 hx55 h56 x88 hx88 h89 h101)
    ·refine swp_exit (swp_seq ?_)
     refine sC (cs:=[(1,CallSpec.eq (s27 (runS g l x)) [true])]) (kt:=[5,9,15,19,20]) (kh:=[8,10368,30608]) (q:=True/\((zE (AV.agg (cRun (runS g l x)))/\True)/\Triple Try.prog 27 (s27 (runS g l x))/\fits (runS g l x)/\True /\ ∀ (i102:Env),True)/\tn 6) (st':=ASt.mk [(5,.ptr 8 []),(9,.ptr 10368 []),(15,iv (minT g l (Shn.ch x) x88)),(19,.ptr 30608 []),(20,iv (openE (runS g l x) true))] [(8,.cells 82 (cShn x)),(10368,.cells 25 (cRun (runS g l x))),(30608,.cells 37 (cSpan (mixesS (runS g l x))))] 30632) ⟨tv,⟨⟨rfl,tv⟩,(t27 (runS g l x)),(o70 hp h51 x53 hx53 h54 x55 hx55 h56 x88 hx88 h89),tv,(fun i102=>tv)⟩,tp 6⟩ ?_
     refine swp_seq ?_
     refine sC (cs:=[(1,CallSpec.eq (s65 (runS g l x) 0) [true,true])]) (kt:=[5,15,19,20,21,22]) (kh:=[8,30608]) (q:=True/\((zE (AV.agg (cRun (runS g l x)))/\iv 0=iv 0/\True)/\Triple Try.prog 65 (s65 (runS g l x) 0)/\fits (runS g l x)/\True /\ ∀ (i103:Env),True)/\tn 5) (st':=ASt.mk [(5,.ptr 8 []),(15,iv (minT g l (Shn.ch x) x88)),(19,.ptr 30608 []),(20,iv (openE (runS g l x) true)),(21,iv (mixedS (runS g l x) 0)),(22,iv (openE (runS g l x) (isMachine (runS g l x) 0)))] [(8,.cells 82 (cShn x)),(30608,.cells 37 (cSpan (mixesS (runS g l x))))] 30688) ⟨tv,⟨⟨rfl,rfl,tv⟩,(t65 (runS g l x) (0)),(o71 hp h51 x53 hx53 h54 x55 hx55 h56 x88 hx88 h89),tv,(fun i103=>tv)⟩,tp 5⟩ ?_
     refine swp_seq ?_
     refine sQ (kt:=[5,15,19,20,21,22,23]) (kh:=[8,30608]) (q:=True/\True) (st':=ASt.mk [(5,.ptr 8 []),(15,iv (minT g l (Shn.ch x) x88)),(19,.ptr 30608 []),(20,iv (openE (runS g l x) true)),(21,iv (mixedS (runS g l x) 0)),(22,iv (openE (runS g l x) (isMachine (runS g l x) 0))),(23,iv 2)] [(8,.cells 82 (cShn x)),(30608,.cells 37 (cSpan (mixesS (runS g l x))))] 30696) ⟨tv,tv⟩ ?_
     refine swp_seq (swp_seq ?_)
     refine sQ (kt:=[5,15,19,20,21,22,23,178]) (kh:=[8,30608]) (q:=tn 2) (st':=ASt.mk [(5,.ptr 8 []),(15,iv (minT g l (Shn.ch x) x88)),(19,.ptr 30608 []),(20,iv (openE (runS g l x) true)),(21,iv (mixedS (runS g l x) 0)),(22,iv (openE (runS g l x) (isMachine (runS g l x) 0))),(23,iv 2),(178,bv (decide (0 < minT g l (Shn.ch x) x88)))] [(8,.cells 82 (cShn x)),(30608,.cells 37 (cSpan (mixesS (runS g l x))))] 30712) (tp 2) ?_
     refine swp_join2 (ASt.mk [(23,iv (wantT g l (Shn.ch x))),(5,AV.ptr 8 []),(15,iv (minT g l (Shn.ch x) x88)),(19,AV.ptr 30608 []),(20,iv (openE (runS g l x) true)),(21,iv (mixedS (runS g l x) 0)),(22,iv (openE (runS g l x) (isMachine (runS g l x) 0)))] [(8,OB.cells 82 (cShn x)),(30608,OB.cells 37 (cSpan (mixesS (runS g l x))))] 40712) ?_ ?_
     ·refine swp_seq ?_
      refine sC (cs:=[(25,CallSpec.eq s60 [])]) (kt:=[6]) (kh:=[]) (q:=True/\True/\True/\(decide (openE (runS g l x) true=0)=true->(True/\True)/\True)/\(decide (openE (runS g l x) true=0)=true->((decide (openE (runS g l x) true=0)=true->decide (openE (runS g l x) true=0)=true)/\True/\True)/\True)/\((decide (openE (runS g l x) true=0)=true->decide (openE (runS g l x) true=0)=true)/\(decide (openE (runS g l x) true=0)=false->True))/\True/\((bif decide (openE (runS g l x) true=0) then decide (openE (runS g l x) (isMachine (runS g l x) 0)=0) else false)=true->(True/\True)/\True)/\((bif decide (openE (runS g l x) true=0) then decide (openE (runS g l x) (isMachine (runS g l x) 0)=0) else false)=true->(True/\True)/\True)/\((bif decide (openE (runS g l x) true=0) then decide (openE (runS g l x) (isMachine (runS g l x) 0)=0) else false)=true->(((bif decide (openE (runS g l x) true=0) then decide (openE (runS g l x) (isMachine (runS g l x) 0)=0) else false)=true->(bif decide (openE (runS g l x) true=0) then decide (openE (runS g l x) (isMachine (runS g l x) 0)=0) else false)=true)/\True)/\True)/\((bif decide (openE (runS g l x) true=0) then decide (openE (runS g l x) (isMachine (runS g l x) 0)=0) else false)=true->(True/\True)/\True)/\((bif decide (openE (runS g l x) true=0) then decide (openE (runS g l x) (isMachine (runS g l x) 0)=0) else false)=true->(((bif decide (openE (runS g l x) true=0) then decide (openE (runS g l x) (isMachine (runS g l x) 0)=0) else false)=true->(bif decide (openE (runS g l x) true=0) then decide (openE (runS g l x) (isMachine (runS g l x) 0)=0) else false)=true)/\((bif decide (openE (runS g l x) true=0) then decide (openE (runS g l x) (isMachine (runS g l x) 0)=0) else false)=true->(bif decide (openE (runS g l x) true=0) then decide (openE (runS g l x) (isMachine (runS g l x) 0)=0) else false)=true)/\True)/\inI (Shn.rate x * minT g l (Shn.ch x) x88))/\((bif decide (openE (runS g l x) true=0) then decide (openE (runS g l x) (isMachine (runS g l x) 0)=0) else false)=true->(True/\True)/\True)/\((bif decide (openE (runS g l x) true=0) then decide (openE (runS g l x) (isMachine (runS g l x) 0)=0) else false)=true->(((bif decide (openE (runS g l x) true=0) then decide (openE (runS g l x) (isMachine (runS g l x) 0)=0) else false)=true->(bif decide (openE (runS g l x) true=0) then decide (openE (runS g l x) (isMachine (runS g l x) 0)=0) else false)=true)/\True)/\True)/\((bif decide (openE (runS g l x) true=0) then decide (openE (runS g l x) (isMachine (runS g l x) 0)=0) else false)=true->(True/\True)/\True)/\((bif decide (openE (runS g l x) true=0) then decide (openE (runS g l x) (isMachine (runS g l x) 0)=0) else false)=true->(((bif decide (openE (runS g l x) true=0) then decide (openE (runS g l x) (isMachine (runS g l x) 0)=0) else false)=true->(bif decide (openE (runS g l x) true=0) then decide (openE (runS g l x) (isMachine (runS g l x) 0)=0) else false)=true)/\((bif decide (openE (runS g l x) true=0) then decide (openE (runS g l x) (isMachine (runS g l x) 0)=0) else false)=true->(bif decide (openE (runS g l x) true=0) then decide (openE (runS g l x) (isMachine (runS g l x) 0)=0) else false)=true)/\True)/\inI (Shn.rate x * minT g l (Shn.ch x) x88))/\((bif decide (openE (runS g l x) true=0) then decide (openE (runS g l x) (isMachine (runS g l x) 0)=0) else false)=true->(((bif decide (openE (runS g l x) true=0) then decide (openE (runS g l x) (isMachine (runS g l x) 0)=0) else false)=true->(bif decide (openE (runS g l x) true=0) then decide (openE (runS g l x) (isMachine (runS g l x) 0)=0) else false)=true)/\((bif decide (openE (runS g l x) true=0) then decide (openE (runS g l x) (isMachine (runS g l x) 0)=0) else false)=true->(bif decide (openE (runS g l x) true=0) then decide (openE (runS g l x) (isMachine (runS g l x) 0)=0) else false)=true)/\True)/\True)/\((bif decide (openE (runS g l x) true=0) then decide (openE (runS g l x) (isMachine (runS g l x) 0)=0) else false)=true->(((bif decide (openE (runS g l x) true=0) then decide (openE (runS g l x) (isMachine (runS g l x) 0)=0) else false)=true->(bif decide (openE (runS g l x) true=0) then decide (openE (runS g l x) (isMachine (runS g l x) 0)=0) else false)=true)/\((bif decide (openE (runS g l x) true=0) then decide (openE (runS g l x) (isMachine (runS g l x) 0)=0) else false)=true->(bif decide (openE (runS g l x) true=0) then decide (openE (runS g l x) (isMachine (runS g l x) 0)=0) else false)=true)/\True)/\True)/\(((bif decide (openE (runS g l x) true=0) then decide (openE (runS g l x) (isMachine (runS g l x) 0)=0) else false)=true->(bif decide (openE (runS g l x) true=0) then decide (openE (runS g l x) (isMachine (runS g l x) 0)=0) else false)=true)/\((bif decide (openE (runS g l x) true=0) then decide (openE (runS g l x) (isMachine (runS g l x) 0)=0) else false)=false->True))/\True/\((bif bif decide (openE (runS g l x) true=0) then decide (openE (runS g l x) (isMachine (runS g l x) 0)=0) else false then decide ((mixesS (runS g l x)).lo=Shn.rate x * minT g l (Shn.ch x) x88) && (decide ((mixesS (runS g l x)).hi=Shn.rate x * minT g l (Shn.ch x) x88) && true) else false)=true->(True/\True)/\True)/\((bif bif decide (openE (runS g l x) true=0) then decide (openE (runS g l x) (isMachine (runS g l x) 0)=0) else false then decide ((mixesS (runS g l x)).lo=Shn.rate x * minT g l (Shn.ch x) x88) && (decide ((mixesS (runS g l x)).hi=Shn.rate x * minT g l (Shn.ch x) x88) && true) else false)=true->(True/\True)/\True)/\((bif bif decide (openE (runS g l x) true=0) then decide (openE (runS g l x) (isMachine (runS g l x) 0)=0) else false then decide ((mixesS (runS g l x)).lo=Shn.rate x * minT g l (Shn.ch x) x88) && (decide ((mixesS (runS g l x)).hi=Shn.rate x * minT g l (Shn.ch x) x88) && true) else false)=true->(((bif bif decide (openE (runS g l x) true=0) then decide (openE (runS g l x) (isMachine (runS g l x) 0)=0) else false then decide ((mixesS (runS g l x)).lo=Shn.rate x * minT g l (Shn.ch x) x88) && (decide ((mixesS (runS g l x)).hi=Shn.rate x * minT g l (Shn.ch x) x88) && true) else false)=true->(bif bif decide (openE (runS g l x) true=0) then decide (openE (runS g l x) (isMachine (runS g l x) 0)=0) else false then decide ((mixesS (runS g l x)).lo=Shn.rate x * minT g l (Shn.ch x) x88) && (decide ((mixesS (runS g l x)).hi=Shn.rate x * minT g l (Shn.ch x) x88) && true) else false)=true)/\((bif bif decide (openE (runS g l x) true=0) then decide (openE (runS g l x) (isMachine (runS g l x) 0)=0) else false then decide ((mixesS (runS g l x)).lo=Shn.rate x * minT g l (Shn.ch x) x88) && (decide ((mixesS (runS g l x)).hi=Shn.rate x * minT g l (Shn.ch x) x88) && true) else false)=true->(bif bif decide (openE (runS g l x) true=0) then decide (openE (runS g l x) (isMachine (runS g l x) 0)=0) else false then decide ((mixesS (runS g l x)).lo=Shn.rate x * minT g l (Shn.ch x) x88) && (decide ((mixesS (runS g l x)).hi=Shn.rate x * minT g l (Shn.ch x) x88) && true) else false)=true)/\True)/\True)/\(((bif bif decide (openE (runS g l x) true=0) then decide (openE (runS g l x) (isMachine (runS g l x) 0)=0) else false then decide ((mixesS (runS g l x)).lo=Shn.rate x * minT g l (Shn.ch x) x88) && (decide ((mixesS (runS g l x)).hi=Shn.rate x * minT g l (Shn.ch x) x88) && true) else false)=true->(bif bif decide (openE (runS g l x) true=0) then decide (openE (runS g l x) (isMachine (runS g l x) 0)=0) else false then decide ((mixesS (runS g l x)).lo=Shn.rate x * minT g l (Shn.ch x) x88) && (decide ((mixesS (runS g l x)).hi=Shn.rate x * minT g l (Shn.ch x) x88) && true) else false)=true)/\((bif bif decide (openE (runS g l x) true=0) then decide (openE (runS g l x) (isMachine (runS g l x) 0)=0) else false then decide ((mixesS (runS g l x)).lo=Shn.rate x * minT g l (Shn.ch x) x88) && (decide ((mixesS (runS g l x)).hi=Shn.rate x * minT g l (Shn.ch x) x88) && true) else false)=false->True))/\True/\((bif bif bif decide (openE (runS g l x) true=0) then decide (openE (runS g l x) (isMachine (runS g l x) 0)=0) else false then decide ((mixesS (runS g l x)).lo=Shn.rate x * minT g l (Shn.ch x) x88) && (decide ((mixesS (runS g l x)).hi=Shn.rate x * minT g l (Shn.ch x) x88) && true) else false then decide (mixedS (runS g l x) 0=wantT g l (Shn.ch x)) else false)=true->(True/\True)/\True/\Triple Try.prog 60 s60/\True/\True /\ ∀ (i141:Env),True)/\(((bif bif bif decide (openE (runS g l x) true=0) then decide (openE (runS g l x) (isMachine (runS g l x) 0)=0) else false then decide ((mixesS (runS g l x)).lo=Shn.rate x * minT g l (Shn.ch x) x88) && (decide ((mixesS (runS g l x)).hi=Shn.rate x * minT g l (Shn.ch x) x88) && true) else false then decide (mixedS (runS g l x) 0=wantT g l (Shn.ch x)) else false)=true->(bif bif bif decide (openE (runS g l x) true=0) then decide (openE (runS g l x) (isMachine (runS g l x) 0)=0) else false then decide ((mixesS (runS g l x)).lo=Shn.rate x * minT g l (Shn.ch x) x88) && (decide ((mixesS (runS g l x)).hi=Shn.rate x * minT g l (Shn.ch x) x88) && true) else false then decide (mixedS (runS g l x) 0=wantT g l (Shn.ch x)) else false)=true)/\((bif bif bif decide (openE (runS g l x) true=0) then decide (openE (runS g l x) (isMachine (runS g l x) 0)=0) else false then decide ((mixesS (runS g l x)).lo=Shn.rate x * minT g l (Shn.ch x) x88) && (decide ((mixesS (runS g l x)).hi=Shn.rate x * minT g l (Shn.ch x) x88) && true) else false then decide (mixedS (runS g l x) 0=wantT g l (Shn.ch x)) else false)=false->True))/\True/\True) (st':=ASt.mk [(6,bv (bif bif bif bif decide (openE (runS g l x) true=0) then decide (openE (runS g l x) (isMachine (runS g l x) 0)=0) else false then decide ((mixesS (runS g l x)).lo=Shn.rate x * minT g l (Shn.ch x) x88) && (decide ((mixesS (runS g l x)).hi=Shn.rate x * minT g l (Shn.ch x) x88) && true) else false then decide (mixedS (runS g l x) 0=wantT g l (Shn.ch x)) else false then true else false))] [] 40936) ⟨tv,tv,tv,(fun h105=>⟨⟨tv,tv⟩,tv⟩),(fun h106=>⟨⟨(fun h107=>h106),tv,tv⟩,tv⟩),⟨(fun h108=>h108),(fun h109=>tv)⟩,tv,(fun h110=>⟨⟨tv,tv⟩,tv⟩),(fun h111=>⟨⟨tv,tv⟩,tv⟩),(fun h112=>⟨⟨(fun h113=>h112),tv⟩,tv⟩),(fun h114=>⟨⟨tv,tv⟩,tv⟩),(fun h115=>⟨⟨(fun h116=>h115),(fun h117=>h115),tv⟩,(o74 hp h51 x53 hx53 h54 x55 hx55 h56 x88 hx88 h89 h115)⟩),(fun h118=>⟨⟨tv,tv⟩,tv⟩),(fun h119=>⟨⟨(fun h120=>h119),tv⟩,tv⟩),(fun h121=>⟨⟨tv,tv⟩,tv⟩),(fun h122=>⟨⟨(fun h123=>h122),(fun h124=>h122),tv⟩,(o75 hp h51 x53 hx53 h54 x55 hx55 h56 x88 hx88 h89 h122)⟩),(fun h125=>⟨⟨(fun h126=>h125),(fun h127=>h125),tv⟩,tv⟩),(fun h128=>⟨⟨(fun h129=>h128),(fun h130=>h128),tv⟩,tv⟩),⟨(fun h131=>h131),(fun h132=>tv)⟩,tv,(fun h133=>⟨⟨tv,tv⟩,tv⟩),(fun h134=>⟨⟨tv,tv⟩,tv⟩),(fun h135=>⟨⟨(fun h136=>h135),(fun h137=>h135),tv⟩,tv⟩),⟨(fun h138=>h138),(fun h139=>tv)⟩,tv,(fun h140=>⟨⟨tv,tv⟩,tv,(t60),tv,tv,(fun i141=>tv)⟩),⟨(fun h142=>h142),(fun h143=>tv)⟩,tv,tv⟩ ?_
      refine swp_ret ?_
      exact rQ [] ((True/\True)/\(zN (bv (bif bif bif bif decide (openE (runS g l x) true=0) then decide (openE (runS g l x) (isMachine (runS g l x) 0)=0) else false then decide ((mixesS (runS g l x)).lo=Shn.rate x * minT g l (Shn.ch x) x88) && (decide ((mixesS (runS g l x)).hi=Shn.rate x * minT g l (Shn.ch x) x88) && true) else false then decide (mixedS (runS g l x) 0=wantT g l (Shn.ch x)) else false then true else false)) (bv true))/\T3) ⟨⟨tv,tv⟩,⟨(congrArg bv (o76 hp h51 x53 hx53 h54 x55 hx55 h56 x88 hx88 h89)),rfl⟩,rfl,rfl,rfl⟩
     ·refine swp_cond (decide (0 < minT g l (Shn.ch x) x88)) (by kernel_rfl) (fun h104 => ?_) (fun h104 => ?_)
      ·refine sQ (kt:=[5,15,19,20,21,22,23]) (kh:=[8,30608]) (q:=True/\True) (st':=ASt.mk [(5,.ptr 8 []),(15,iv (minT g l (Shn.ch x) x88)),(19,.ptr 30608 []),(20,iv (openE (runS g l x) true)),(21,iv (mixedS (runS g l x) 0)),(22,iv (openE (runS g l x) (isMachine (runS g l x) 0))),(23,iv 1)] [(8,.cells 82 (cShn x)),(30608,.cells 37 (cSpan (mixesS (runS g l x))))] 30720) ⟨tv,tv⟩ ?_
       exact join_end (ent_q hE [] [(8,.same 8),(30608,.same 30608)] [15,20,21,22] [8,30608] (((iv 1=iv (wantT g l (Shn.ch x))/\nilN = [])/\(some (Src.same 8)=some (Src.same 8)/\nilP = [])/\(iv (minT g l (Shn.ch x) x88)=iv (minT g l (Shn.ch x) x88)/\true=true)/\(some (Src.same 30608)=some (Src.same 30608)/\nilP = [])/\(iv (openE (runS g l x) true)=iv (openE (runS g l x) true)/\true=true)/\(iv (mixedS (runS g l x) 0)=iv (mixedS (runS g l x) 0)/\true=true)/\(iv (openE (runS g l x) (isMachine (runS g l x) 0))=iv (openE (runS g l x) (isMachine (runS g l x) 0))/\true=true)/\True)/\((OB.cells 82 (cShn x)=OB.cells 82 (cShn x)/\true=true)/\(OB.cells 37 (cSpan (mixesS (runS g l x)))=OB.cells 37 (cSpan (mixesS (runS g l x)))/\true=true)/\True)/\T2) (by kernel_rfl) (by kernel_rfl) ⟨⟨⟨(congrArg iv (o72 hp h51 x53 hx53 h54 x55 hx55 h56 x88 hx88 h89 h104)),rfl⟩,⟨rfl,rfl⟩,⟨rfl,rfl⟩,⟨rfl,rfl⟩,⟨rfl,rfl⟩,⟨rfl,rfl⟩,⟨rfl,rfl⟩,tv⟩,⟨⟨rfl,rfl⟩,⟨rfl,rfl⟩,tv⟩,rfl,rfl⟩)
      ·refine swp_skip ?_
       exact join_end (ent_q hE [] [(8,.same 8),(30608,.same 30608)] [15,20,21,22] [8,30608] (((iv 2=iv (wantT g l (Shn.ch x))/\nilN = [])/\(some (Src.same 8)=some (Src.same 8)/\nilP = [])/\(iv (minT g l (Shn.ch x) x88)=iv (minT g l (Shn.ch x) x88)/\true=true)/\(some (Src.same 30608)=some (Src.same 30608)/\nilP = [])/\(iv (openE (runS g l x) true)=iv (openE (runS g l x) true)/\true=true)/\(iv (mixedS (runS g l x) 0)=iv (mixedS (runS g l x) 0)/\true=true)/\(iv (openE (runS g l x) (isMachine (runS g l x) 0))=iv (openE (runS g l x) (isMachine (runS g l x) 0))/\true=true)/\True)/\((OB.cells 82 (cShn x)=OB.cells 82 (cShn x)/\true=true)/\(OB.cells 37 (cSpan (mixesS (runS g l x)))=OB.cells 37 (cSpan (mixesS (runS g l x)))/\true=true)/\True)/\T2) (by kernel_rfl) (by kernel_rfl) ⟨⟨⟨(congrArg iv (o73 hp h51 x53 hx53 h54 x55 hx55 h56 x88 hx88 h89 h104)),rfl⟩,⟨rfl,rfl⟩,⟨rfl,rfl⟩,⟨rfl,rfl⟩,⟨rfl,rfl⟩,⟨rfl,rfl⟩,⟨rfl,rfl⟩,tv⟩,⟨⟨rfl,rfl⟩,⟨rfl,rfl⟩,tv⟩,rfl,rfl⟩)
theorem nf {b:Bool} (h:(!b)=false):b=true:=by cases b <;> simp_all
theorem check7_ok {g:Hs} (h:(!decide (check7 g=0))=false):okH g=true:=by
 have:check7 g=0:=by simpa using h
 unfold check7 at this
 cases e:okH g with
 | true=>rfl
 | false=>rw [e] at this; cases this
theorem sinceE_0 {g:Hs} {c:Int} {i:Nat}:sinceE g c i=0 ↔ ¬ sinceV g c i=100:=by unfold sinceE; split <;> simp_all
theorem plates7_at {g:Hs} {l:List Int} (hr:rising l 0 ((g.things.length:Int) - 1)=true) (hA:∀ n,n ∈ l->plOK g 99 n=true) (hF:(0<=firstTo g l l.length/\firstTo g l l.length<=99) /\ ∀ j,j < l.length->(thg g (l.getD j 0).toNat).at_<=firstTo g l l.length) (v:Nat):plates7 g l (firstV g l + (v:Int))=true:=by
 rw [plates7,hr,all_idx l 0 _ fun j hj => ?_]; rfl
 have h1:=hA _ (Go.Ab.getD_mem l 0 hj)
 have h2:=hF.2 j hj
 have h3:firstV g l=firstTo g l l.length:=rfl
 simp only [plOK,Bool.and_eq_true,Bool.not_eq_true',decide_eq_false_iff_not] at h1 ⊢
 exact ⟨h1.1,by omega⟩
theorem t14s (g:Hs) (l:List Int) (x:Shn):Triple Try.prog 14 (s14 g l x):=by
  apply w14
  all_goals (first | ((repeat intro _) <;> (try simp only [v0,v1,v2,v3,v4,v5,v6,v7,v8,v9,inI,fits,Go.Sh.small] at *) <;> first | (exact rfl) | omega | exact vz | (simp_all; done) | (simp_all; omega)) | skip)
  all_goals (intro hp hg; obtain ⟨_,g2,g3,g4,g5,g6⟩:=guard14 hg; have hok:=check7_ok g2; obtain ⟨l1,l2,hT,hM⟩:=okH_iff.1 hok; have hc:=Go.Sh.within_iff.1 (nf g3); have hra:=Go.Sh.within_iff.1 (nf g4); have hle:=Go.Sh.within_iff.1 (nf g5); obtain ⟨hr,hA⟩:=plates_and (nf g6); have hF:=first_in hok hr l.length (Nat.le_refl _); have hfv:firstV g l=firstTo g l l.length:=rfl; have hlt:1<=lastT g l/\lastT g l<=30:=(by unfold lastT; omega); intro y hy hyl; simp only [decide_eq_true_eq,decide_eq_false_iff_not] at hyl)
  case o10 | o11=>have:=rising_at hr (i:=y) (by omega); omega
  case o14=>rw [firstTo_succ]
  all_goals (have ey:y=l.length:=(by omega); subst ey)
  case o17=>exact ⟨by omega,by omega⟩
  all_goals (intro z hz hzl; simp only [decide_eq_true_eq,decide_eq_false_iff_not] at hzl)
  case o22=>exact hok
  case o23 | o24=>have:=rising_at hr (i:=z) (by omega); omega
  case o32=>omega
  case o28 =>
    have hs:=since_in (c:=x.ch) hok (i:=(l.getD z 0).toNat) (by have:=rising_at hr (i:=z) (by omega); omega)
    unfold sinceE sinceR
    by_cases e:sinceV g x.ch (l.getD z 0).toNat=100
    · rw [if_pos e,if_pos e]; rfl
    · rw [if_neg e,if_neg e,Go.Sh.within_iff.2 (by omega)]; rfl
  case o29 => intro hh; by_cases e : sinceV g x.ch (l.getD z 0).toNat = 100
              · exact e.symm
              · rw [sinceE_0.2 e] at hh; cases hh
  case o30 => intro hh; by_cases e : sinceV g x.ch (l.getD z 0).toNat = 100
              · unfold sinceE at hh; rw [if_pos e] at hh; cases hh
              · unfold sinceR; rw [if_neg e]
  case o31 =>
    have hs:=since_in (c:=x.ch) hok (i:=(l.getD z 0).toNat) (by have:=rising_at hr (i:=z) (by omega); omega)
    exact ⟨by omega,by omega⟩
  case o35=>intro i hi; rw [chT_succ]; have hcl:=chT_len g l x.ch z; generalize chT g l x.ch z=L at hcl ⊢; subst hcl; exact catF_one L ⟨atT g l x.ch L.length,atT g l x.ch L.length⟩ default cSpan rfl (fun _ _=>rfl) rfl hi
  all_goals (have ez:z=l.length:=(by omega); subst ez; have hll:1<=l.length/\l.length<=3:=(by omega); have hok6:=run_ok (x:=x) hll hra (show 0<=firstV g l/\firstV g l<=99 from hF.1))
  case o38=>rw [chT_len]
  case o39=>intro i hi; rfl
  case o41=>rfl
  case o43=>intro i hi; have:i=0:=(by have:(runS g l x).machines.length=1:=rfl; omega); subst this; rfl
  case o45=>exact ok_fits (ok_of hok6)
  case o46=>rw [check,if_pos hok6]; rfl
  all_goals (intro v hv hvl; have ela:(runS g l x).last=lastT g l:=rfl; simp only [decide_eq_true_eq,decide_eq_false_iff_not,ela] at hvl; have hmi:=minT_in (g:=g) (l:=l) (c:=x.ch) v)
  case o50=>omega
  case o51=>exact ⟨by omega,by omega⟩
  case o53=>rfl
  case o54=>exact hok
  case o55=>exact plates7_at hr hA hF v
  case o56=>exact Go.Sh.within_iff.2 (by unfold lastT at hvl; omega)
  case o57=>have:=mixTo_len g l (firstV g l + (v:Int)) 3; exact decide_eq_false (by show ¬ (3:Int) < ((mixTo g l _ 3).length:Int); omega)
  case o58=>have:=mixTo_len g l (firstV g l + (v:Int)) 3; show (mixTo g l _ 3).length<=_; omega
  case o70 | o71=>exact ok_fits (ok_of hok6)
  case o72 =>
    intro hh
    have e:v=(lastT g l).toNat:=by omega
    subst e
    unfold wantT; rw [if_pos (of_decide_eq_true hh)]
  case o73 =>
    intro hh
    have e:v=(lastT g l).toNat:=by omega
    subst e
    unfold wantT; rw [if_neg (of_decide_eq_false hh)]
  case o74 | o75 =>
    intro _
    have:=rate_mul hra (b:=minT g l x.ch v) (by omega)
    exact ⟨by omega,by omega⟩
  case o76 =>
    have e:v=(lastT g l).toNat:=by omega
    subst e
    have hO:=run_one hok6
    have hmt:=minT_all (g:=g) (l:=l) hc hll.1 (by omega)
    have hmx:=run_mixes (x:=x) hok6 hll
    have hmd:=run_mixed (x:=x) hok6 hll
    have z1:=one_open hO (is:=true) rfl
    have z2:=one_open hO (is:=isMachine (runS g l x) 0) rfl
    have hw:wantT g l x.ch=if 0 < dT g l x.ch then 1 else 2:=by unfold wantT; rw [hmt]
    rw [hmx,hmd,hmt,z1,z2,hw,decide_eq_true (p:=x.rate * dT g l x.ch=x.rate * dT g l x.ch) rfl]
    simp
  all_goals (intro hh)
  case o59=>exact ⟨by omega,by omega⟩
  case o60 | o65=>exact ⟨by omega,by omega⟩
  case o62=>rw [minT,if_pos hh]
  case o67=>rw [minT,hh]; rfl
  case o63 | o64 | o68 | o69=>omega
end Go.Ab
namespace Go.Ab
open Go Go.RowKit
def Dec (P:Program) (t:TypeId) {α:Type} (c:α->List AV) (ok:α->Prop):Prop :=
 ∀ {H:Type} (enc:TypeId × Value->H) (w:World) (E:Env) (fuel:Nat) (cs:List Value) (d:DataW H) (ps:List MemPlace),
  (∀ b,E.M b=w.heap[b]?)->DataW.trod enc P w 0 (fun _=>true) true fuel t cs=some (d,ps)->(∀ n ∈ d.weights P t,n<=reachBytes) -> ∃ a,ok a /\ ∀ o,RelL E o (c a) cs
theorem mcell_of {E:Env} {w:World} (h:∀ b,E.M b=w.heap[b]?) {a:Addr} {v:Value} (hc:w.cell? a=some v):a.spot=none/\mcell E.M a.block a.off=some v:=by
 refine ⟨World.cell?_spot hc,?_⟩
 have hs:=World.cell?_spot hc
 unfold World.cell? at hc
 unfold mcell
 rw [h]
 split at hc
 ·rename_i c t fr e
  rw [hs] at hc
  rw [e]
  simpa using hc
 ·cases hc
theorem lit_wf {n:Int} (h:(Lit.int .i64 n).wf=true) : -9223372036854775808<=n/\n<=9223372036854775807:=by
 simpa [Lit.wf,IntKind.min,IntKind.max,IntKind.signed,IntKind.bits] using h
theorem dec_int {P:Program} {t:TypeId} (ht:P.underlying t=some (.int .i64)):Dec P t (fun n=>[iv n]) (fun n => -9223372036854775808<=n/\n<=9223372036854775807):=by
 intro H enc w E fuel cs d ps _ h _
 obtain ⟨n,rfl,_,hw⟩:=DataW.trod_int ht h
 exact ⟨n,lit_wf hw,fun o => .cons (.lit _) rfl .nil⟩
theorem weightsAll_mem {H:Type} {P:Program} {e:TypeId}:∀ {l:List (DataW H)} {d:DataW H},d ∈ l -> ∀ n ∈ d.weights P e,n ∈ DataW.weightsAll P e l:=by
 intro l
 induction l with
 | nil=>intro d h; cases h
 | cons x l ih =>
  intro d h n hn
  rw [DataW.weightsAll,List.mem_append]
  rcases List.mem_cons.1 h with rfl | h
  ·exact .inl hn
  ·exact .inr (ih h n hn)
theorem dec_slice {P:Program} {t e:TypeId} {α:Type} [Inhabited α] {c:α->List AV} {ok:α->Prop} (ht:P.underlying t=some (.slice e)) {sz:Nat} (hsz:P.cellsOf e=sz) (hpos:0 < sz) (hby:0 < P.bytesOf e) (he:Dec P e c ok) :
  Dec P t (fun l:List α=>[.sl sz l.length (fun i=>c (l.getD i default))]) (fun l=>l.length<=140737488355328 /\ ∀ a,a ∈ l->ok a):=by
 intro H enc w E fuel cs d ps hE h hw
 rcases Deep.open_slice ht h with ⟨rfl,hx⟩ | ⟨a,len,cap,m,n,D,Pl,rfl,hb,hl,hm,hmm,hx,hall⟩
 ·refine ⟨[],⟨Nat.zero_le _,fun a ha=>by cases ha⟩,fun o => ?_⟩
  exact .cons (.slN _ _) rfl .nil
 ·simp only [if_true] at hmm
  subst hmm
  rw [hsz] at hall
  obtain ⟨rfl,rfl⟩:=Prod.mk.inj hx
  have hwt:∀ i,i < len -> ∀ k ∈ (D i).weights P e,k<=reachBytes:=by
   intro i hi k hk
   refine hw k ?_
   rw [DataW.weights,ht]
   refine List.mem_cons_of_mem _ (List.mem_append_left _ (weightsAll_mem (d:=D i) ?_ k hk))
   exact List.mem_map.2 ⟨i,List.mem_range.2 hi,rfl⟩
  have hlen:len<=140737488355328:=by
   have h1:(((List.range len).map D).length + ((List.range (m - len)).map fun j=>D (len + j)).length) * P.bytesOf e<=reachBytes:=by
    refine hw _ ?_
    rw [DataW.weights,ht]
    exact List.mem_cons_self ..
   simp only [List.length_map,List.length_range] at h1
   have h2:len<=(len + (m - len)) * P.bytesOf e:=Nat.le_trans (Nat.le_add_right _ _) (Nat.le_mul_of_pos_right _ hby)
   have h3:=reachBytes_lt
   omega
  obtain ⟨g,hg⟩:=Deep.choose_lt (α:=List Value) (p:=fun i cs'=>w.cells? 0 (a.add (i * sz)) sz=some cs'/\DataW.trod enc P w 0 (fun _=>true) true n e cs'=some (D i,Pl i)) hall
  have hdec:∀ i,i < len -> ∃ x,ok x /\ ∀ o,RelL E o (c x) (g i):=fun i hi=>he enc w E n (g i) (D i) (Pl i) hE (hg i (by omega)).2 (hwt i hi)
  obtain ⟨A,hA⟩:=Deep.choose_lt (α:=α) (p:=fun i x=>ok x /\ ∀ o,RelL E o (c x) (g i)) hdec
  refine ⟨(List.range len).map A,⟨by simpa using hlen,fun x hx => ?_⟩,fun o => .cons ?_ rfl .nil⟩
  ·obtain ⟨i,hi,rfl⟩:=List.mem_map.1 hx
   exact (hA i (List.mem_range.1 hi)).1
  ·rw [List.length_map,List.length_range]
   have hcell:∀ i k,i < m->k < sz -> ∃ v,(g i)[k]? = some v/\w.cell? ((a.add (i * sz)).add k)=some v:=by
    intro i k hi hk
    obtain ⟨_,hl1,hl2⟩:=World.cells?_some (hg i hi).1
    have:=hl2 k hk
    obtain ⟨v,hv⟩:∃ v,(g i)[k]? = some v:=⟨_,List.getElem?_eq_getElem (by omega)⟩
    exact ⟨v,hv,by rw [this,hv]⟩
   by_cases h0:m=0
   ·subst h0
    obtain rfl:len=0:=by omega
    exact .slZ _ _ _
   ·obtain ⟨v,_,hv⟩:=hcell 0 0 (by omega) hpos
    have hsp:=(mcell_of hE hv).1
    obtain ⟨b,off,spot⟩:=a
    obtain rfl:spot=none:=by simpa [Addr.add] using hsp
    refine .slA sz len _ b off m g hl hm (fun i hi => ?_) (fun i k hi hk => ?_) (fun i hi => ?_)
    ·exact (World.cells?_some (hg i (by omega)).1).2.1
    ·obtain ⟨v,hv1,hv2⟩:=hcell i k (by omega) hk
     rw [hv1]
     have:=(mcell_of hE hv2).2
     rw [addr_add,addr_add] at this
     exact this
    ·have:((List.range len).map A).getD i default=A i:=by
      rw [List.getD_eq_getElem?_getD,List.getElem?_map,List.getElem?_range hi]; rfl
     rw [this]
     exact (hA i hi).2 false
def DecFs (P:Program) (off fin:Nat) (fs:List Field) {α:Type} (c:α->List AV) (ok:α->Prop):Prop :=
 ∀ {H:Type} (enc:TypeId × Value->H) (w:World) (E:Env) (n:Nat) (cs:List Value) (xs:List (DataW H × List MemPlace)),
  (∀ b,E.M b=w.heap[b]?)->cs.length=fin->xs.length=fs.length->(∀ (i:Nat) (f:Field),fs[i]? = some f->DataW.trod enc P w 0 (fun _=>true) true n f.type ((cs.drop f.offset).take (P.cellsOf f.type))=xs[i]?) →
  (∀ k ∈ DataW.weightsEach P (fs.map (·.type)) (xs.map (·.1)),k<=reachBytes) -> ∃ a,ok a /\ ∀ o,RelL E o (c a) (cs.drop off)
theorem decFs_nil {P:Program} {fin:Nat}:DecFs P fin fin [] (fun _:Unit=>[]) (fun _=>True):=by
 intro H enc w E n cs xs _ hl _ _ _
 refine ⟨(),trivial,fun o => ?_⟩
 rw [List.drop_of_length_le (by omega)]
 exact .nil
theorem decFs_cons {P:Program} {off mid fin:Nat} {f:Field} {fs:List Field} {α β:Type} {c1:α->List AV} {ok1:α->Prop} {c2:β->List AV} {ok2:β->Prop} {t:TypeId} (hft:f.type=t) (ho:f.offset=off) (hm:off + P.cellsOf t=mid)
  (h1:Dec P t c1 ok1) (h2:DecFs P mid fin fs c2 ok2):DecFs P off fin (f :: fs) (fun p:α × β=>c1 p.1 ++ c2 p.2) (fun p=>ok1 p.1/\ok2 p.2):=by
 intro H enc w E n cs xs hE hl hx hall hw
 subst hft; subst ho; subst hm
 cases xs with
 | nil=>simp at hx
 | cons x xs =>
  have h0:=hall 0 f rfl
  simp only [List.getElem?_cons_zero] at h0
  obtain ⟨a,ha,hra⟩:=h1 enc w E n _ x.1 x.2 hE h0 (fun k hk=>hw k (by
   simp only [List.map_cons,DataW.weightsEach]
   exact List.mem_append_left _ hk))
  obtain ⟨b,hb,hrb⟩:=h2 enc w E n cs xs hE hl (by simpa using hx) (fun i g hg=>by
   have:=hall (i + 1) g (by simpa using hg)
   simpa using this) (fun k hk=>hw k (by
   simp only [List.map_cons,DataW.weightsEach]
   exact List.mem_append_right _ hk))
  refine ⟨(a,b),⟨ha,hb⟩,fun o => ?_⟩
  have:=(hra o).append (hrb o)
  rw [← List.drop_drop,List.take_append_drop] at this
  exact this
theorem dec_struct {P:Program} {t:TypeId} {fs:Array Field} {sz:Nat} {α:Type} {c:α->List AV} {ok:α->Prop} (ht:P.underlying t=some (.struct fs)) (hsz:P.cellsOf t=sz) (h:DecFs P 0 sz fs.toList c ok):Dec P t c ok:=by
 intro H enc w E fuel cs d ps hE hd hw
 obtain ⟨xs,n,_,hx,hl,hxl,hall⟩:=DataW.trod_struct ht hd
 obtain ⟨rfl,rfl⟩:=Prod.mk.inj hx
 obtain ⟨a,ha,hr⟩:=h enc w E n cs xs hE (by omega) (by simpa using hxl) (fun i f hf=>hall i f (by simpa using hf)) (fun k hk=>hw k (by rw [DataW.weights,ht]; exact hk))
 exact ⟨a,ha,fun o=>by simpa using hr o⟩
theorem Dec.map {P:Program} {t:TypeId} {α β:Type} {c:α->List AV} {ok:α->Prop} {c':β->List AV} {ok':β->Prop} (h:Dec P t c ok) (g:α->β) (hc:∀ a,ok a->c' (g a)=c a) (hok:∀ a,ok a->ok' (g a)):Dec P t c' ok':=by
 intro H enc w E fuel cs d ps hE hd hw
 obtain ⟨a,ha,hr⟩:=h enc w E fuel cs d ps hE hd hw
 exact ⟨g a,hok a ha,fun o=>by rw [hc a ha]; exact hr o⟩
theorem Dec.arg {P:Program} {t:TypeId} {α:Type} {c:α->List AV} {ok:α->Prop} (h:Dec P t c ok) {H:Type} {enc:TypeId × Value->H} {w:World} {E:Env} (hE:∀ b,E.M b=w.heap[b]?) {v:Value} {d:DataW H} {ps:List MemPlace}
  (hd:DataW.Trod enc P w 0 (fun _=>true) true t v d ps) (hw:∀ n ∈ d.weights P t,n<=reachBytes):∃ a,ok a /\ ∀ o,RelL E o (c a) v.cells.toList:=by
 obtain ⟨fuel,hf⟩:=hd
 exact h enc w E fuel _ d ps hE hf hw
def envOf (w:World):Env:={ M:=fun b=>w.heap[b]?,blk:=fun _=>none,hdr:=fun _=>none,fns:=fun _ _=>False }
theorem heapOK_of (P:Program) (w:World):HeapOK (calleeCtx P (envOf w) w []) (envOf w) (Heap.of []) w where
 os:=rfl
 tape:=rfl
 output:=rfl
 size:=Nat.le_refl _
 pres:=fun _ _=>rfl
 mem:=fun _ _ h=>h
 le:=Env.le.refl _
 ext:=fun _ _ h => .inl h
 own:=fun id ob h=>by cases h
 sep:=fun i j k _ h=>absurd rfl h
theorem trodAll_below {H:Type} {enc:TypeId × Value->H} {P:Program} (hl:laidOutB P=true) {W W':World} (hb:Below W.heap.size W W'):∀ {ts:List TypeId} {vs:List Value} {ds:List (DataW H)} {ps:List MemPlace},
  (∀ t ∈ ts,P.readableRec t=true/\t < P.types.size)->DataW.TrodAll enc P W 0 (fun _=>true) true ts vs ds ps->(∀ x ∈ ps,x.block < W.heap.size) →
  DataW.TrodAll enc P W' 0 (fun b=>decide (b < W.heap.size)) true ts vs ds ps:=by
 intro ts
 induction ts with
 | nil =>
  intro vs ds ps _ h _
  obtain ⟨rfl,rfl,rfl⟩:=ChangeShapes.trodAll_nil h
  exact ChangeShapes.trodAll_mk0
 | cons t ts ih =>
  intro vs ds ps hr h hlt
  obtain ⟨v,vs',d,ds',p,q,rfl,rfl,rfl,hd,hrest⟩:=ChangeShapes.trodAll_cons h
  obtain ⟨h1,h2⟩:=hr t (List.mem_cons_self ..)
  exact ⟨p,q,Below.trod hl h1 h2 hd hb (fun x hx=>hlt x (List.mem_append_left _ hx)),ih (fun t ht=>hr t (List.mem_cons_of_mem _ ht)) hrest (fun x hx=>hlt x (List.mem_append_right _ hx)),rfl⟩
theorem law_contract {P:Program} (hl:laidOutB P=true) {f:FuncId} {fn:Func} {s:ChangeSpec} (hvars:s.vars = []) {tb:TypeId} (hres:fn.resultTypes = #[tb]) (htb:P.underlying tb=some .bool)
  (hread:∀ t ∈ fn.params.toList,P.readableRec t=true/\t < P.types.size)
  {H:Type} {enc:TypeId × Value->H} {W:World} {args:Array Value} {ds gs:List (DataW H)} {before:List MemPlace}
  (hfn:ds.length=fn.params.size->s.fn H ds = { results:=[.lit (.bool true)],args:=ds })
  (hW:DataW.Whole enc P fn.params.toList s.vars false W args.toList ds gs before) {sp:CallSpec} (ht:Triple P f sp) (hp:sp.pre) (hfo:∀ E,sp.fnok E) (hin:sp.hin = []) (hout:sp.hout = []) (hr:sp.res=bv true)
  (hla:args.toList.length=sp.args.length) (hra:∀ k,Rel (envOf W) true (sp.args.getD k .any) (args.toList.getD k undef)) :
  Calls P f args W fun e W' => ∃ v,e = .returned v/\s.post enc P fn false true false false W args v W':=by
 have hok:=heapOK_of P W
 have h:=ht.2 hp (envOf W) W args.toList (hfo _) (by rw [hin]; exact hok) hla hra
 refine (h (by rw [hout]; intro p hp; cases hp)).mono fun e W' hpost => ?_
 obtain ⟨v,E',he,hh,hv,_⟩:=hpost
 rw [hr] at hv
 have hvt:v = .bool true:=by cases hv; rfl
 subst hvt
 have hb:Below W.heap.size W W':=⟨hh.os,hh.tape,hh.output,hh.size,fun k hk=>hh.pres k (by
  rintro (hc | ⟨q,hq,_⟩)
  ·exact absurd hk (Nat.not_lt.2 hc)
  ·rw [hin] at hq; cases hq)⟩
 refine ⟨_,he,?_⟩
 have hW':=hW
 obtain ⟨p,q,hA,hV,rfl,hz,hnd⟩:=hW
 rw [hvars] at hV
 obtain ⟨rfl,rfl⟩:=ChangeShapes.trodVars_none hV
 have hlen:ds.length=fn.params.size:=by
  have:∀ {ts:List TypeId} {vs:List Value} {ds:List (DataW H)} {ps:List MemPlace},DataW.TrodAll enc P W 0 (fun _=>true) true ts vs ds ps->ds.length=ts.length:=by
   intro ts
   induction ts with
   | nil=>intro vs ds ps h; obtain ⟨_,rfl,_⟩:=ChangeShapes.trodAll_nil h; rfl
   | cons t ts ih=>intro vs ds ps h; obtain ⟨_,_,_,_,_,_,rfl,rfl,rfl,_,hr⟩:=ChangeShapes.trodAll_cons h; simp [ih hr]
  simpa using this hA
 refine ⟨ds,[],p ++ [],[],p,[],hW',?_,?_,?_,hb.frame _,fun h=>by cases h⟩
 ·rw [List.append_nil,hfn hlen,hres]
  exact ChangeShapes.trodAll_mk1 (shut_bool htb true)
 ·rw [List.append_nil,hfn hlen]
  exact trodAll_below hl hb hread hA (fun x hx=>hW'.lt x (List.mem_append_left _ hx))
 ·rw [List.append_nil,hfn hlen,hvars]
  rfl
end Go.Ab
namespace Go.Ab
open Go Go.RowKit Go.Proofs Go.Sh Go.En
theorem dInt:Dec Try.prog 3 (fun n=>[iv n]) (fun n => -9223372036854775808<=n/\n<=9223372036854775807):=dec_int Try.underlying3
theorem dInts:Dec Try.prog 30 (fun l:List Int=>[aInts l]) (fun l=>l.length<=140737488355328) :=
 Dec.map (dec_slice (α:=Int) Try.underlying30 (by kernel_rfl) (by decide) (Nat.lt_of_lt_of_eq (by decide:0 < 8) (by kernel_rfl)) dInt) id (fun _ _=>rfl) (fun _ h=>h.1)
set_option maxRecDepth 100000
theorem laidOut:laidOutB Try.prog=true:=by kernel_rfl
section
variable {H:Type} {enc:TypeId × Value->H} {W:World} {base:Nat} {v:Value} {d:DataW H} {ps:List MemPlace}
theorem arg_struct {t:TypeId} {fs:Array Field} {α:Type} {c:α->List AV} {ok:α->Prop} (ht:Try.prog.underlying t=some (.struct fs)) (hD:Dec Try.prog t c ok) (hval:Value.okWide Try.prog W .any base t v) (hd:DataW.Trod enc Try.prog W 0 (fun _=>true) true t v d ps) (hw:∀ n ∈ d.weights Try.prog t,n<=reachBytes) :
  ∃ a,ok a/\Rel (envOf W) true (.agg (c a)) v:=by
 unfold Value.okWide at hval
 rw [ht] at hval
 obtain ⟨cs,rfl,_⟩:=hval
 obtain ⟨a,ha,hr⟩:=hD.arg (E:=envOf W) (fun _=>rfl) hd hw
 refine ⟨a,ha,?_⟩
 have h:=Rel.agg (hr true)
 simpa [Value.cells] using h
end
theorem weights_part {H:Type} {ts:List TypeId} {ds:List (DataW H)} (h:(DataW.weightsEach Try.prog ts ds).all (· <= reachBytes)=true) {j:Nat} {t:TypeId} {d:DataW H} (ht:ts[j]? = some t) (hd:ds[j]? = some d):∀ n ∈ d.weights Try.prog t,n<=reachBytes:=by
 intro n hn
 have:=List.all_eq_true.1 h _ (DataW.weights_mem_each ht hd n hn)
 simpa using this
end Go.Ab
namespace Go.Ab
open Go Go.RowKit Go.Proofs Go.Sh Go.En
set_option maxRecDepth 100000
def ArgD (t:TypeId) (α:Type) (c:α->AV) (ok:α->Prop):Prop :=
 (Try.prog.readableRec t=true/\t < Try.prog.types.size) /\ ∀ {H:Type} {enc:TypeId × Value->H} {W:World} {base:Nat} {v:Value} {d:DataW H} {ps:List MemPlace},Value.okWide Try.prog W .any base t v->DataW.Trod enc Try.prog W 0 (fun _=>true) true t v d ps->(∀ n ∈ d.weights Try.prog t,n<=reachBytes) -> ∃ a,ok a/\Rel (envOf W) true (c a) v
abbrev i64 (n:Int):Prop := -9223372036854775808<=n/\n<=9223372036854775807
theorem argStruct {t:TypeId} {fs:Array Field} {α:Type} {c:α->List AV} {ok:α->Prop} (ht:Try.prog.underlying t=some (.struct fs)) (hr:Try.prog.readableRec t=true/\t < Try.prog.types.size) (hD:Dec Try.prog t c ok):ArgD t α (fun a => .agg (c a)) ok:=⟨hr,fun hv hd hw=>arg_struct ht hD hv hd hw⟩
end Go.Ab
namespace Go.Ab
open Go Go.RowKit Go.Proofs Go.Sh Go.En
set_option maxRecDepth 100000
theorem dThg:Dec Try.prog 88 cThg (fun _=>True) :=
 Dec.map (dec_struct Try.underlying88 (sz:=4) (by kernel_rfl) (decFs_cons (mid:=1) rfl rfl (by kernel_rfl) dInt (decFs_cons (mid:=2) rfl rfl (by kernel_rfl) dInt (decFs_cons (mid:=3) rfl rfl (by kernel_rfl) dInt (decFs_cons (mid:=4) rfl rfl (by kernel_rfl) dInt decFs_nil))))) (fun p=>(⟨p.1,p.2.1,p.2.2.1,p.2.2.2.1⟩:Thg)) (fun _ _=>rfl) (fun _ _=>trivial)
theorem dMrk:Dec Try.prog 126 cMrk (fun _=>True) :=
 Dec.map (dec_struct Try.underlying126 (sz:=3) (by kernel_rfl) (decFs_cons (mid:=1) rfl rfl (by kernel_rfl) dInt (decFs_cons (mid:=2) rfl rfl (by kernel_rfl) dInt (decFs_cons (mid:=3) rfl rfl (by kernel_rfl) dInt decFs_nil)))) (fun p=>(⟨p.1,p.2.1,p.2.2.1⟩:Mrk)) (fun _ _=>rfl) (fun _ _=>trivial)
theorem dThgs:Dec Try.prog 77 (fun l:List Thg=>[.sl 4 l.length (fun i=>cThg (l.getD i default))]) (fun l=>l.length<=140737488355328 /\ ∀ m,m ∈ l->True) :=
 dec_slice (α:=Thg) Try.underlying77 (by kernel_rfl) (by decide) (Nat.lt_of_lt_of_eq (by decide:0 < 32) (by kernel_rfl)) dThg
theorem dMrks:Dec Try.prog 78 (fun l:List Mrk=>[aMrks l]) (fun l=>l.length<=140737488355328 /\ ∀ m,m ∈ l->True) :=
 dec_slice (α:=Mrk) Try.underlying78 (by kernel_rfl) (by decide) (Nat.lt_of_lt_of_eq (by decide:0 < 24) (by kernel_rfl)) dMrk
theorem dHs:Dec Try.prog 80 cHs fitsH:=by
 refine Dec.map (dec_struct Try.underlying80 (sz:=2) (by kernel_rfl) (decFs_cons (mid:=1) rfl rfl (by kernel_rfl) dThgs (decFs_cons (mid:=2) rfl rfl (by kernel_rfl) dMrks decFs_nil))) (fun p=>(⟨p.1,p.2.1⟩:Hs)) (fun _ _=>rfl) (fun p h => ?_)
 obtain ⟨⟨h1,_⟩,⟨h2,_⟩,_⟩:=h
 exact ⟨Nat.le_trans h1 (by decide),Nat.le_trans h2 (by decide)⟩
theorem argHs:ArgD 80 Hs (fun h=>vHs h) fitsH:=argStruct Try.underlying80 ⟨by kernel_rfl,of_decide_eq_true (by kernel_rfl)⟩ dHs
theorem dShn:Dec Try.prog 82 cShn (fun _=>True) :=
 Dec.map (dec_struct Try.underlying82 (sz:=2) (by kernel_rfl) (decFs_cons (mid:=1) rfl rfl (by kernel_rfl) dInt (decFs_cons (mid:=2) rfl rfl (by kernel_rfl) dInt decFs_nil))) (fun p=>(⟨p.1,p.2.1⟩:Shn)) (fun _ _=>rfl) (fun _ _=>trivial)
theorem argShn:ArgD 82 Shn (fun x=>vShn x) (fun _=>True):=argStruct Try.underlying82 ⟨by kernel_rfl,of_decide_eq_true (by kernel_rfl)⟩ dShn
theorem argInts:ArgD 30 (List Int) aInts (fun l=>l.length<=140737488355328):=⟨⟨by kernel_rfl,of_decide_eq_true (by kernel_rfl)⟩,fun {_ _ W _ v _ _} hval hd hw=>by
 obtain ⟨a,ha,hr⟩:=dInts.arg (E:=envOf W) (fun _=>rfl) hd hw
 refine ⟨a,ha,?_⟩
 have h:=hr true
 unfold Value.okWide at hval
 rw [Try.underlying30] at hval
 cases v with
 | agg cs=>unfold Cell.okWide at hval; rw [Try.underlying30] at hval; simp [Cell.ok,Try.underlying30] at hval
 | _=>cases h with | cons h _ _=>exact h⟩
theorem law_three {f:FuncId} {fn:Func} {s:ChangeSpec} {t1 t2 t3:TypeId} {α β γ:Type} {c1:α->AV} {c2:β->AV} {c3:γ->AV} {ok1:α->Prop} {ok2:β->Prop} {ok3:γ->Prop} (h1:ArgD t1 α c1 ok1) (h2:ArgD t2 β c2 ok2) (h3:ArgD t3 γ c3 ok3)
  (hps:fn.params = #[t1,t2,t3]) (hres:fn.resultTypes = #[4]) (hvars:s.vars = []) (hfn:∀ (H:Type) (d1 d2 d3:DataW H),s.fn H [d1,d2,d3] = { results:=[.lit (.bool true)],args:=[d1,d2,d3] })
  (sp:α->β->γ->CallSpec) (ht:∀ r a b,Triple Try.prog f (sp r a b)) (hargs:∀ r a b,(sp r a b).args = [c1 r,c2 a,c3 b]) (hpre:∀ r a b,ok1 r->ok2 a->ok3 b->(sp r a b).pre)
  (hfo:∀ r a b E,(sp r a b).fnok E) (hin:∀ r a b,(sp r a b).hin = []) (hout:∀ r a b,(sp r a b).hout = []) (hr:∀ r a b,(sp r a b).res=bv true)
  {H:Type} {enc:TypeId × Value->H} {W:World} {base:Nat} {args:Array Value} {ds gs:List (DataW H)} {before:List MemPlace}
  (hval:∀ (j:Nat) t v,fn.params[j]? = some t->args[j]? = some v->Value.okWide Try.prog W .any base t v) (hW:DataW.Whole enc Try.prog fn.params.toList s.vars false W args.toList ds gs before)
  (hsz:(DataW.weightsEach Try.prog (fn.params.toList ++ s.plain.varTypes Try.prog) (ds ++ gs)).all (· <= reachBytes)=true) :
  Calls Try.prog f args W fun e W' => ∃ v,e = .returned v/\s.post enc Try.prog fn false true false false W args v W':=by
 have hW':=hW
 obtain ⟨p,q,hA,_,_,_,_⟩:=hW
 rw [hps] at hA hval hsz
 obtain ⟨v0,v1,v2,d0,d1,d2,p0,p1,p2,rfl,rfl,rfl,g0,g1,g2⟩:=ChangeShapes.trodAll_three hA
 obtain ⟨r,hr0,r0⟩:=h1.2 (hval 0 t1 v0 rfl rfl) g0 (weights_part hsz (j:=0) rfl rfl)
 obtain ⟨a,ha,r1⟩:=h2.2 (hval 1 t2 v1 rfl rfl) g1 (weights_part hsz (j:=1) rfl rfl)
 obtain ⟨b,hb,r2⟩:=h3.2 (hval 2 t3 v2 rfl rfl) g2 (weights_part hsz (j:=2) rfl rfl)
 refine law_contract laidOut hvars hres Try.underlying4 (fun t htt => ?_) (fun _=>hfn H d0 d1 d2) hW' (ht r a b) (hpre r a b hr0 ha hb) (hfo r a b) (hin r a b) (hout r a b) (hr r a b) (by rw [hargs]; rfl) (fun k => ?_)
 ·rw [hps] at htt
  have:t=t1 ∨ t=t2 ∨ t=t3:=by simpa using htt
  rcases this with rfl | rfl | rfl
  ·exact h1.1
  ·exact h2.1
  ·exact h3.1
 ·rw [hargs]
  rcases k with _ | _ | _ | k
  ·exact r0
  ·exact r1
  ·exact r2
  ·exact .any _
end Go.Ab
namespace Go.Proofs.Ytcbgfmalillplaa
open Go Go.Ab Go.Sh Go.En Go.RowKit
set_option maxRecDepth 100000
theorem own:ownKnob Try.prog.godebug=none:=by kernel_rfl
def nilArgs:Array Value := #[.agg #[.slice none 0 0,.slice none 0 0],.slice none 0 0,.agg #[.int .i64 0,.int .i64 0]]
theorem lifted (os:Os) (started:os.Started) (H:Type) (enc:TypeId × Value->H) :
  ReturnsInHanded {} Try.checked os 14 .any (Rows.topShownSpec.pre6 enc Try.prog Try.f14 Rows.topShownRow.domain false) (Rows.topShownSpec.post enc Try.prog Try.f14 false true false false):=by
 refine returnsInHanded_of_change_sized (C:=Try.checked) own started (by kernel_rfl) Try.func14
  (ChangeSpec.witness6 (enc:=enc) (C:=Try.checked) false ⟨#[],nilArgs,[]⟩ 8 (by kernel_rfl) (by kernel_rfl) (by kernel_rfl) (by kernel_rfl)) ?_
 intro W base args ds gs before hval hW _ hsz _
 exact law_three argHs argInts argShn rfl rfl rfl (fun _ _ _ _=>rfl) s14 t14s (fun _ _ _=>rfl) (fun _ _ _ h h2 _=>⟨h,Nat.le_trans h2 (by decide)⟩) (fun _ _ _ _=>trivial) (fun _ _ _=>rfl) (fun _ _ _=>rfl) (fun _ _ _=>rfl) hval hW hsz
theorem proved:Rows.TopShownSaid :=
 OpenClaim.holds_of_wide 14 Try.f14 rfl rfl rfl rfl rfl rfl rfl ⟨rfl,rfl,rfl,rfl,rfl⟩ rfl rfl rfl rfl rfl (by kernel_rfl) Try.func14 (by kernel_rfl)
  (of_decide_eq_true (by kernel_rfl)) (by unfold Func.isWrapper; first | (rw [if_pos (by decide +kernel)]; kernel_rfl) | (rw [if_neg (by decide +kernel)]; exact ⟨rfl,rfl⟩))
  (fun os started H enc _=>lifted os started H enc)
end Go.Proofs.Ytcbgfmalillplaa
